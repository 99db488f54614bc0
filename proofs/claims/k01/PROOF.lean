import PyProof.Rows.All
import PySem.Syntax
import Wide.All
import OpenK.AllK
import Wide.FinOn
import HandS.ForMost
import HandS.ForExc
import HandS.TryMany
import HandS.IsInst
import HandS.Flow
import HandS.Zip
import HandS.Style
import HandS.Wide
import HandS.WideBits
import HandS.Deep
import HandS.Gcd
import HandS.Lambda
import HandS.EndTab
import HandS.Defaults
import HandS.TupAny
import HandS.TupMul
import HandS.Replace
import HandS.RevRange
import KE.GoesMore
import KE.GoesEnum
import HandS.ReplaceLit
import HandS.ReplaceList
import HandS.ExcSuper
import KE.KExcSuper
import KE.KSuper
import HandS.ReplaceDef
import HandS.WordsExc
import KE.KNestM
import PySem.Challenge.RW_blownalong_k01_whole_texts_cut_into_grou
set_option linter.all false
set_option autoImplicit false
/-! A small evaluator for the part of Python that the given texts use: data, results, operations. -/
namespace Bw
open PySem (Operator CmpOp)

/-- a value as data: what is never changed again, or a reference to a thing of the store, or something that is called -/
inductive D where
  | non
  | bl (b : Bool)
  | int (i : Int)
  | str (s : List Nat)
  | tup (ds : List D)
  | lst (ds : List D)
  | ref (n : Nat)
  | fn (x : String)
  | clo (n : Nat)
  | ty (n : String)
  | scr (ns : List Int)
  deriving Inhabited

/-- a thing that may change -/
inductive MO where
  | lst (ds : List D)
  | ins (c : String) (fs : List (String × D))
abbrev Store := List MO
/-- an error: its class, its fields -/
structure Er where
  cls : String
  fs : List (String × D)
abbrev Env := List (Option D)
inductive Res (α : Type) where
  | ok (a : α) (st : Store)
  | er (e : Er) (st : Store)
  | no
def Res.bind {α β : Type} (r : Res α) (f : α → Store → Res β) : Res β := match r with
  | .ok a st => f a st
  | .er e st => .er e st
  | .no => .no
inductive Out where
  | nx (ρ : Env) (st : Store)
  | rt (d : D) (st : Store)
  | bk (ρ : Env) (st : Store)
  | ct (ρ : Env) (st : Store)
  | er (e : Er) (ρ : Env) (st : Store)
  | no
/-- what is called: from the arguments and the store -/
abbrev Clo := List D → Store → Res D
/-- a def: also from the things that were handed in to be called -/
abbrev Fsp := List Clo → List D → Store → Res D

@[simp] theorem bind_ok {α β : Type} (a : α) (st : Store) (f : α → Store → Res β) : (Res.ok a st).bind f = f a st := rfl
@[simp] theorem bind_er {α β : Type} (e : Er) (st : Store) (f : α → Store → Res β) : (Res.er e st).bind f = .er e st := rfl
theorem bind_assoc {α β γ : Type} (r : Res α) (f : α → Store → Res β) (g : β → Store → Res γ) : (r.bind f).bind g = r.bind fun x st => (f x st).bind g := by
  cases r <;> rfl
@[simp] theorem bind_no {α β : Type} (f : α → Store → Res β) : (Res.no).bind f = .no := rfl

/-! ### equality of data, as == has it -/
mutual
def eqD : D → D → Bool
  | .non, .non => true
  | .bl a, .bl b => a == b
  | .bl a, .int j => (if a then 1 else 0) == j
  | .int i, .bl b => i == (if b then 1 else 0)
  | .int i, .int j => i == j
  | .str x, .str y => x == y
  | .lst xs, .lst ys => eqDs xs ys
  | .tup xs, .tup ys => eqDs xs ys
  | _, _ => false
def eqDs : List D → List D → Bool
  | [], [] => true
  | x :: xs, y :: ys => eqD x y && eqDs xs ys
  | _, _ => false
end
mutual
/-- data through and through, its signs below 0x110000, nested at most so deep -/
def shp : Nat → D → Bool
  | _, .non => true
  | _, .bl _ => true
  | _, .int _ => true
  | _, .str s => s.all (· < 0x110000)
  | n + 1, .tup ds => shps n ds
  | n + 1, .lst ds => shps n ds
  | _, _ => false
def shps : Nat → List D → Bool
  | _, [] => true
  | n, d :: ds => shp n d && shps n ds
end
/-- the pairs that == tells apart at once -/
def flat2 : D → D → Option Bool
  | .non, .non => some true
  | .non, .int _ => some false
  | .int _, .non => some false
  | .non, .bl _ => some false
  | .bl _, .non => some false
  | .non, .str _ => some false
  | .str _, .non => some false
  | .int i, .int j => some (decide (i = j))
  | .bl i, .bl j => some (decide (i = j))
  | .str x, .str y => some (decide (x = y))
  | .int _, .str _ => some false
  | .str _, .int _ => some false
  | .bl _, .str _ => some false
  | .str _, .bl _ => some false
  | _, _ => none
/-- a list of the store read as a value -/
def rd (st : Store) : D → D
  | .ref n => match st[n]? with
    | some (.lst ds) => .lst ds
    | _ => .ref n
  | d => d
def eqv (st : Store) (x y : D) : Option Bool := match flat2 x y with
  | some b => some b
  | none => if shp 60 (rd st x) && shp 60 (rd st y) then some (eqD (rd st x) (rd st y)) else none

/-! ### operators -/
def Sz (n : Nat) : Bool := decide (n ≤ 16777216)
def bits (i : Int) : Nat := i.natAbs.log2
def mulOk (i j : Int) : Bool := decide (i.natAbs < 18446744073709551616) || decide (j.natAbs < 18446744073709551616) || decide (bits i + bits j < 1000000)
def divOk (i j : Int) : Bool := decide (j ≠ 0) && (decide (bits j < 9000) || decide (bits i ≤ bits j + 4000))
def powOk (i j : Int) : Bool := decide (0 ≤ j) && (decide (((bits i : Int) + 1) * j ≤ 100000000))
def shlOk (i j : Int) : Bool := decide (0 ≤ j) && decide ((bits i : Int) + 1 + j ≤ 100000000)
def rep {α : Type} (l : List α) : Nat → List α
  | 0 => []
  | n + 1 => l ++ rep l n
def addD : D → D → Option D
  | .int i, .int j => some (.int (i + j))
  | .str a, .str b => if Sz (a.length + b.length) then some (.str (a ++ b)) else none
  | .tup a, .tup b => if Sz (a.length + b.length) then some (.tup (a ++ b)) else none
  | .lst a, .lst b => if Sz (a.length + b.length) then some (.lst (a ++ b)) else none
  | _, _ => none
def subD : D → D → Option D
  | .int i, .int j => some (.int (i - j))
  | _, _ => none
def mulD : D → D → Option D
  | .int i, .int j => if mulOk i j then some (.int (i * j)) else none
  | .str a, .int j => if decide (0 ≤ j) && Sz j.toNat && Sz (a.length * j.toNat) then some (.str (rep a j.toNat)) else none
  | .tup a, .int j => if decide (2 ≤ j) && decide (j ≤ 1000) && decide (a.length ≤ 1000) && !a.isEmpty then some (.tup (rep a j.toNat)) else none
  | _, _ => none
def divD : D → D → Option D
  | .int i, .int j => if divOk i j then some (.int (i.fdiv j)) else none
  | _, _ => none
def modD : D → D → Option D
  | .int i, .int j => if j ≠ 0 then some (.int (i.fmod j)) else none
  | _, _ => none
def powD : D → D → Option D
  | .int i, .int j => if powOk i j then some (.int (i ^ j.toNat)) else none
  | _, _ => none
def shlD : D → D → Option D
  | .int i, .int j => if shlOk i j then some (.int (i * 2 ^ j.toNat)) else none
  | _, _ => none
def negD : D → Option D
  | .int i => some (.int (-i))
  | _ => none
/-- order of texts, by their signs -/
def strLt : List Nat → List Nat → Bool
  | [], [] => false
  | [], _ :: _ => true
  | _ :: _, [] => false
  | a :: r, b :: s => if a < b then true else if b < a then false else strLt r s
def ltD : D → D → Option Bool
  | .int i, .int j => some (decide (i < j))
  | .str a, .str b => some (strLt a b)
  | _, _ => none
def leD : D → D → Option Bool
  | .int i, .int j => some (decide (i ≤ j))
  | .str a, .str b => some (!strLt b a)
  | _, _ => none
def gtD : D → D → Option Bool
  | .int i, .int j => some (decide (j < i))
  | .str a, .str b => some (strLt b a)
  | _, _ => none
def geD : D → D → Option Bool
  | .int i, .int j => some (decide (j ≤ i))
  | .str a, .str b => some (!strLt a b)
  | _, _ => none
def isNone : D → Option Bool
  | .non => some true
  | .bl _ => some false
  | .int _ => some false
  | .str _ => some false
  | .tup _ => some false
  | .lst _ => some false
  | .ref _ => some false
  | _ => none
/-- x is True, x is False -/
def isBool (b : Bool) : D → Option Bool
  | .bl a => some (decide (a = b))
  | .non => some false
  | .int _ => some false
  | .str _ => some false
  | .tup _ => some false
  | .lst _ => some false
  | .ref _ => some false
  | _ => none
def inD (st : Store) (x y : D) : Option Bool := match x, y with
  | .str [a], .str b => some (decide (a ∈ b))
  | x, .tup ys => if shp 60 x && shps 59 ys then some (ys.any fun y => eqD y x) else none
  | x, .lst ys => if shp 60 x && shps 59 ys then some (ys.any fun y => eqD y x) else none
  | _, _ => none
/-- whether a value counts as true -/
def truD (st : Store) : D → Option Bool
  | .non => some false
  | .bl b => some b
  | .int i => some (i != 0)
  | .str s => if Sz s.length then some (!s.isEmpty) else none
  | .tup ds => some (!ds.isEmpty)
  | .lst ds => some (!ds.isEmpty)
  | .ref n => match st[n]? with
    | some (.lst ds) => some (!ds.isEmpty)
    | _ => none
  | _ => none
/-- items by a number, from behind if below 0 -/
def atN (n : Nat) (i : Int) : Option Nat := if 0 ≤ i then (if i < n then some i.toNat else none) else if -(n : Int) ≤ i then some (i + n).toNat else none
def atD {α : Type} (l : List α) (i : Int) : Option α := (atN l.length i).bind fun j => l[j]?
def idxD (x i : D) (st : Store) : Option D := match x, i with
  | .tup ds, .int k => atD ds k
  | .lst ds, .int k => atD ds k
  | .str s, .int k => if Sz s.length then (atD s k).map fun c => .str [c] else none
  | .ref n, .int k => match st[n]? with
    | some (.lst ds) => atD ds k
    | _ => none
  | _, _ => none
/-- a slice's bound, brought into 0 .. n -/
def clip (n d : Nat) : Option Int → Nat
  | none => d
  | some v => if v < 0 then (v + (n : Int)).toNat else min v.toNat n
def cut {α : Type} (l : List α) (lo hi : Option Int) : List α := (l.drop (clip l.length 0 lo)).take (clip l.length l.length hi - clip l.length 0 lo)
def sliD (x : D) (lo hi : Option Int) (st : Store) : Option D := match x with
  | .tup ds => some (.tup (cut ds lo hi))
  | .lst ds => some (.lst (cut ds lo hi))
  | .str s => if Sz s.length then some (.str (cut s lo hi)) else none
  | .scr ns => some (.lst (cut (ns.map D.int) lo hi))
  | .ref n => match st[n]? with
    | some (.lst ds) => some (.lst (cut ds lo hi))
    | _ => none
  | _ => none
end Bw
set_option linter.all false
set_option autoImplicit false
set_option maxRecDepth 100000
/-! How data are borne by values and the abstract heap. -/
namespace Bw
open PySem PySem.Spec PyProof.Rows L2

/-- what stands for ever (tuples, lists that nobody changes, errors' dicts), and where the store's things stand -/
structure Zw where
  G : Hp
  μ : List Addr
  F : Hp
structure Le (z z' : Zw) : Prop where
  g : ∀ a o, z.G a = some o → z'.G a = some o
  m : ∃ r, z'.μ = z.μ ++ r
  f : z'.F = z.F
/-- .. but for what is left alone -/
structure Lg (z z' : Zw) : Prop where
  g : ∀ a o, z.G a = some o → z'.G a = some o
  m : ∃ r, z'.μ = z.μ ++ r
theorem Le.lg {z z' : Zw} (h : Le z z') : Lg z z' := ⟨h.g, h.m⟩
theorem Lg.trans {z z1 z2 : Zw} (a : Lg z z1) (b : Lg z1 z2) : Lg z z2 := by
  refine ⟨fun c o h => b.g c o (a.g c o h), ?_⟩
  obtain ⟨r, e⟩ := a.m
  obtain ⟨r', e'⟩ := b.m
  exact ⟨r ++ r', by rw [e', e, List.append_assoc]⟩
theorem Lg.refl (z : Zw) : Lg z z := ⟨fun _ _ h => h, ⟨[], (List.append_nil _).symm⟩⟩
theorem Lg.le {z z' : Zw} (h : Lg z z') : Le z ⟨z'.G, z'.μ, z.F⟩ := ⟨h.g, h.m, rfl⟩
theorem Le.refl (z : Zw) : Le z z := ⟨fun _ _ h => h, ⟨[], (List.append_nil _).symm⟩, rfl⟩
theorem Le.trans {z z1 z2 : Zw} (a : Le z z1) (b : Le z1 z2) : Le z z2 := by
  refine ⟨fun c o h => b.g c o (a.g c o h), ?_, b.f.trans a.f⟩
  obtain ⟨r, e⟩ := a.m
  obtain ⟨r', e'⟩ := b.m
  exact ⟨r ++ r', by rw [e', e, List.append_assoc]⟩
theorem Le.at {z z' : Zw} (h : Le z z') {n : Nat} {a : Addr} (e : z.μ[n]? = some a) : z'.μ[n]? = some a := by
  obtain ⟨r, q⟩ := h.m
  rw [q, List.getElem?_append_left (List.getElem?_eq_some_iff.mp e).1]
  exact e

/-- where one stands -/
structure Cc where
  K : PySem.W.Frag
  mg : Str → Option Value

abbrev strOf (s : List Nat) : Str := ⟨s.toArray⟩
mutual
inductive Rp (c : Cc) (z : Zw) : V → D → Prop
  | non : Rp c z .non .non
  | bl (b : Bool) : Rp c z (.bl b) (.bl b)
  | int (i : Int) : Rp c z (.int i) (.int i)
  | str (s : List Nat) : Rp c z (.str (strOf s)) (.str s)
  | tup {a : Addr} {vs : List V} {ds : List D} : SqT c.K z.G a vs → Rps c z vs ds → Rp c z (.ref a) (.tup ds)
  | lst {a : Addr} {vs : List V} {ds : List D} : z.G a = some (.lst vs) → Rps c z vs ds → Rp c z (.ref a) (.lst ds)
  | ref {n : Nat} {a : Addr} : z.μ[n]? = some a → Rp c z (.ref a) (.ref n)
  | fn {x : String} {v : V} {u : Value} : c.mg (Str.ofString x) = some u → RelV v u → Rp c z v (.fn x)
  | ty (n : String) : Rp c z (.ty n) (.ty n)
  | scr {a : Addr} {ns : List Int} : SqL c.K z.G a (ns.map V.int) → Rp c z (.ref a) (.scr ns)
inductive Rps (c : Cc) (z : Zw) : List V → List D → Prop
  | nil : Rps c z [] []
  | cons {v : V} {vs : List V} {d : D} {ds : List D} : Rp c z v d → Rps c z vs ds → Rps c z (v :: vs) (d :: ds)
end
theorem seqT_mono {K : PySem.W.Frag} {G G' : Hp} (h : ∀ a o, G a = some o → G' a = some o) {a : Addr} {vs : List V} (x : SqT K G a vs) : SqT K G' a vs := by
  rcases x with (x | ⟨o, x⟩) | x
  · exact .inl (.inl (h _ _ x))
  · exact .inl (.inr ⟨o, h _ _ x⟩)
  · exact .inr x
theorem seqL_mono {K : PySem.W.Frag} {G G' : Hp} (h : ∀ a o, G a = some o → G' a = some o) {a : Addr} {vs : List V} (x : SqL K G a vs) : SqL K G' a vs := by
  rcases x with (x | ⟨o, x⟩) | x
  · exact .inl (.inl (h _ _ x))
  · exact .inl (.inr ⟨o, h _ _ x⟩)
  · exact .inr x
mutual
theorem Rp.mono {c : Cc} {z z' : Zw} (h : Le z z') {v : V} {d : D} : Rp c z v d → Rp c z' v d
  | .non => .non
  | .bl b => .bl b
  | .int i => .int i
  | .str s => .str s
  | .tup s r => .tup (seqT_mono h.g s) (Rps.mono h r)
  | .lst s r => .lst (h.g _ _ s) (Rps.mono h r)
  | .ref e => .ref (h.at e)
  | .fn a b => .fn a b
  | .ty n => .ty n
  | .scr s => .scr (seqL_mono h.g s)
theorem Rps.mono {c : Cc} {z z' : Zw} (h : Le z z') {vs : List V} {ds : List D} : Rps c z vs ds → Rps c z' vs ds
  | .nil => .nil
  | .cons a b => .cons (Rp.mono h a) (Rps.mono h b)
end
theorem Rps.len {c : Cc} {z : Zw} : ∀ {vs : List V} {ds : List D}, Rps c z vs ds → vs.length = ds.length
  | _, _, .nil => rfl
  | _, _, .cons _ t => by simp [Rps.len t]
theorem Rps.app {c : Cc} {z : Zw} : ∀ {vs ws : List V} {ds es : List D}, Rps c z vs ds → Rps c z ws es → Rps c z (vs ++ ws) (ds ++ es)
  | _, _, _, _, .nil, s => s
  | _, _, _, _, .cons a t, s => .cons a (Rps.app t s)
theorem Rps.get {c : Cc} {z : Zw} : ∀ {vs : List V} {ds : List D} {i : Nat} {d : D}, Rps c z vs ds → ds[i]? = some d → ∃ v, vs[i]? = some v ∧ Rp c z v d
  | _, _, _, _, .nil, e => by simp at e
  | _, _, 0, d, .cons a t, e => by
    have e' := Option.some.inj (show some _ = some d from e)
    subst e'
    exact ⟨_, rfl, a⟩
  | _, _, i + 1, d, .cons a t, e => Rps.get (i := i) t e
theorem Rps.getV {c : Cc} {z : Zw} : ∀ {vs : List V} {ds : List D} {i : Nat} {v : V}, Rps c z vs ds → vs[i]? = some v → ∃ d, ds[i]? = some d ∧ Rp c z v d
  | _, _, _, _, .nil, e => by simp at e
  | _, _, 0, v, .cons a t, e => by
    have e' := Option.some.inj (show some _ = some v from e)
    subst e'
    exact ⟨_, rfl, a⟩
  | _, _, i + 1, v, .cons a t, e => Rps.getV (i := i) t e
theorem Rps.take {c : Cc} {z : Zw} : ∀ {vs : List V} {ds : List D} (n : Nat), Rps c z vs ds → Rps c z (vs.take n) (ds.take n)
  | _, _, 0, _ => .nil
  | _, _, _ + 1, .nil => .nil
  | _, _, n + 1, .cons a t => .cons a (Rps.take n t)
theorem Rps.drop {c : Cc} {z : Zw} : ∀ {vs : List V} {ds : List D} (n : Nat), Rps c z vs ds → Rps c z (vs.drop n) (ds.drop n)
  | _, _, 0, r => r
  | _, _, _ + 1, .nil => .nil
  | _, _, n + 1, .cons _ t => Rps.drop n t
theorem Rps.set {c : Cc} {z : Zw} {v : V} {d : D} (r : Rp c z v d) : ∀ {vs : List V} {ds : List D} (n : Nat), Rps c z vs ds → Rps c z (vs.set n v) (ds.set n d)
  | _, _, _, .nil => .nil
  | _, _, 0, .cons _ t => .cons r t
  | _, _, n + 1, .cons a t => .cons a (Rps.set r n t)
theorem Rps.rev {c : Cc} {z : Zw} : ∀ {vs : List V} {ds : List D}, Rps c z vs ds → Rps c z vs.reverse ds.reverse
  | _, _, .nil => .nil
  | _, _, .cons a t => by
    rw [List.reverse_cons, List.reverse_cons]
    exact (Rps.rev t).app (.cons a .nil)

/-- the fields of an error -/
inductive Rpf (c : Cc) (z : Zw) : List (Str × V) → List (String × D) → Prop
  | nil : Rpf c z [] []
  | cons {x : String} {v : V} {d : D} {fs : List (Str × V)} {es : List (String × D)} : Rp c z v d → Rpf c z fs es → Rpf c z ((Str.ofString x, v) :: fs) ((x, d) :: es)
theorem Rpf.mono {c : Cc} {z z' : Zw} (h : Le z z') : ∀ {fs : List (Str × V)} {es : List (String × D)}, Rpf c z fs es → Rpf c z' fs es
  | _, _, .nil => .nil
  | _, _, .cons a t => .cons (a.mono h) (Rpf.mono h t)

/-- one thing of the store, at a -/
def RpO (c : Cc) (z : Zw) (H : Hp) (a : Addr) : MO → Prop
  | .lst ds => ∃ vs, H a = some (.lst vs) ∧ Rps c z vs ds
  | .ins x fs => ∃ C dx vs, c.mg (Str.ofString x) = some (.ref C) ∧ H a = some (.ins C dx vs) ∧ Rpf c z vs fs
theorem RpO.mono {c : Cc} {z z' : Zw} {H H' : Hp} {a : Addr} (h : Le z z') (e : H' a = H a) : ∀ {o : MO}, RpO c z H a o → RpO c z' H' a o
  | .lst _, ⟨vs, x, r⟩ => ⟨vs, e.trans x, r.mono h⟩
  | .ins _ _, ⟨C, dx, vs, m, x, r⟩ => ⟨C, dx, vs, m, e.trans x, r.mono h⟩
theorem RpO.stands {c : Cc} {z : Zw} {H : Hp} {a : Addr} : ∀ {o : MO}, RpO c z H a o → H a ≠ none
  | .lst _, ⟨_, x, _⟩ => by rw [x]; simp
  | .ins _ _, ⟨_, _, _, _, x, _⟩ => by rw [x]; simp

/-- the abstract heap bears the store -/
structure Wf (c : Cc) (T : List (Addr × Str)) (z : Zw) (st : Store) (H : Hp) : Prop where
  sub : ∀ a o, z.G a = some o → H a = some o
  len : z.μ.length = st.length
  nd : z.μ.Nodup
  obj : ∀ (n : Nat) (a : Addr) (o : MO), z.μ[n]? = some a → st[n]? = some o → z.G a = none ∧ RpO c z H a o
  tab : LamX.Tabs T H
  noT : ∀ p ∈ T, z.G p.1 = none ∧ p.1 ∉ z.μ
  fr : ∀ a o, z.F a = some o → H a = some o ∧ z.G a = none ∧ a ∉ z.μ ∧ (∀ p ∈ T, p.1 ≠ a) ∧ ∃ vs, o = .lst vs

section
variable {c : Cc} {T : List (Addr × Str)} {z : Zw} {st : Store} {H : Hp}
theorem Wf.tup {a : Addr} {vs : List V} (w : Wf c T z st H) (h : SqT c.K z.G a vs) : SqT c.K H a vs := seqT_mono w.sub h
theorem Wf.seq {a : Addr} {vs : List V} (w : Wf c T z st H) (h : SqL c.K z.G a vs) : SqL c.K H a vs := seqL_mono w.sub h
theorem Wf.stands {n : Nat} {a : Addr} (w : Wf c T z st H) (e : z.μ[n]? = some a) : H a ≠ none := by
  have h1 : n < st.length := by rw [← w.len]; exact (List.getElem?_eq_some_iff.mp e).1
  exact (w.obj n a _ e (List.getElem?_eq_getElem h1)).2.stands
theorem Wf.notin {p : Addr} (w : Wf c T z st H) (hp : H p = none) : p ∉ z.μ := fun hm => by
  obtain ⟨n, e⟩ := List.getElem?_of_mem hm
  exact w.stands e hp
theorem Wf.noG {p : Addr} (w : Wf c T z st H) (hp : H p = none) : z.G p = none := by
  cases e : z.G p with
  | none => rfl
  | some o =>
    have := w.sub _ _ e
    rw [hp] at this
    cases this
theorem Wf.neT {p : Addr} (w : Wf c T z st H) (hp : H p = none) : ∀ q ∈ T, q.1 ≠ p := fun q hq e => by
  obtain ⟨ps, h, _⟩ := w.tab q hq
  rw [e, hp] at h
  cases h
/-- a new thing that stands for ever -/
def Zw.lay (z : Zw) (p : Addr) (o : HO) : Zw := ⟨upd z.G p o, z.μ, z.F⟩
theorem Zw.lay_le {z : Zw} {p : Addr} {o : HO} (h : z.G p = none) : Le z (z.lay p o) :=
  ⟨fun a u e => by
    show upd z.G p o a = _
    rw [upd_ne (ne_of_none e h)]
    exact e, ⟨[], (List.append_nil _).symm⟩, rfl⟩
theorem tabs_upd {H : Hp} {p : Addr} {o : HO} (t : LamX.Tabs T H) (hp : H p = none) : LamX.Tabs T (upd H p o) := t.ext fun b u e => by
  rw [upd_ne (ne_of_none e hp)]
  exact e
theorem Wf.lay {p : Addr} {o : HO} (w : Wf c T z st H) (hp : H p = none) : Wf c T (z.lay p o) st (upd H p o) := by
  have np := w.notin hp
  have hg := w.noG hp
  refine ⟨fun a u e => ?_, w.len, w.nd, fun n a u e1 e2 => ?_, tabs_upd w.tab hp, fun q hq => ?_, fun a u e => ?_⟩
  · by_cases h : a = p
    · have e' : upd z.G p o a = some u := e
      rw [h, upd_same] at e' ⊢
      exact e'
    · have e' : upd z.G p o a = some u := e
      rw [upd_ne h] at e' ⊢
      exact w.sub _ _ e'
  · have ne : a ≠ p := fun h => np (h ▸ List.mem_of_getElem? e1)
    obtain ⟨h1, h2⟩ := w.obj n a u e1 e2
    exact ⟨by show upd z.G p o a = none; rw [upd_ne ne]; exact h1, h2.mono (Zw.lay_le hg) (upd_ne ne)⟩
  · obtain ⟨h1, h2⟩ := w.noT q hq
    exact ⟨by show upd z.G p o q.1 = none; rw [upd_ne (w.neT hp q hq)]; exact h1, h2⟩
  · obtain ⟨h1, h0, h2⟩ := w.fr a u e
    have ne := ne_of_none h1 hp
    exact ⟨by rw [upd_ne ne]; exact h1, by show upd z.G p o a = none; rw [upd_ne ne]; exact h0, h2⟩
theorem Wf.newTup {p : Addr} {vs : List V} {ds : List D} (w : Wf c T z st H) (hp : H p = none) (r : Rps c z vs ds) :
    Le z (z.lay p (.tup vs)) ∧ Wf c T (z.lay p (.tup vs)) st (upd H p (.tup vs)) ∧ Rp c (z.lay p (.tup vs)) (.ref p) (.tup ds) :=
  have l := Zw.lay_le (o := .tup vs) (w.noG hp)
  ⟨l, w.lay hp, .tup (.inl (.inl upd_same)) (r.mono l)⟩
theorem Wf.newLst {p : Addr} {vs : List V} {ds : List D} (w : Wf c T z st H) (hp : H p = none) (r : Rps c z vs ds) :
    Le z (z.lay p (.lst vs)) ∧ Wf c T (z.lay p (.lst vs)) st (upd H p (.lst vs)) ∧ Rp c (z.lay p (.lst vs)) (.ref p) (.lst ds) :=
  have l := Zw.lay_le (o := .lst vs) (w.noG hp)
  ⟨l, w.lay hp, .lst upd_same (r.mono l)⟩
/-- a new thing of the store -/
def Zw.push (z : Zw) (p : Addr) : Zw := ⟨z.G, z.μ ++ [p], z.F⟩
theorem Zw.push_le {z : Zw} {p : Addr} : Le z (z.push p) := ⟨fun _ _ h => h, ⟨[p], rfl⟩, rfl⟩
theorem get_snoc {α : Type} {l : List α} {x : α} {n : Nat} {y : α} (h : (l ++ [x])[n]? = some y) : l[n]? = some y ∨ (n = l.length ∧ y = x) := by
  by_cases hn : n < l.length
  · rw [List.getElem?_append_left hn] at h
    exact .inl h
  · have : n = l.length := by
      have := (List.getElem?_eq_some_iff.mp h).1
      rw [List.length_append] at this
      simp at this
      omega
    subst this
    rw [List.getElem?_append_right (Nat.le_refl _)] at h
    simp at h
    exact .inr ⟨rfl, h.symm⟩
theorem Wf.push {p : Addr} {vs : List V} {ds : List D} (w : Wf c T z st H) (hp : H p = none) (r : Rps c z vs ds) :
    Le z (z.push p) ∧ Wf c T (z.push p) (st ++ [.lst ds]) (upd H p (.lst vs)) ∧ Rp c (z.push p) (.ref p) (.ref st.length) := by
  have np := w.notin hp
  have hg := w.noG hp
  refine ⟨Zw.push_le, ⟨fun a u e => ?_, ?_, ?_, fun n a u e1 e2 => ?_, tabs_upd w.tab hp, fun q hq => ?_, fun a u e => ?_⟩, .ref ?_⟩
  · rw [upd_ne (ne_of_none e hg)]
    exact w.sub _ _ e
  · show (z.μ ++ [p]).length = _
    rw [List.length_append, List.length_append, w.len] <;> rfl
  · show (z.μ ++ [p]).Nodup
    rw [List.nodup_append]
    refine ⟨w.nd, by simp, fun a ha b hb => ?_⟩
    rw [List.mem_singleton] at hb
    subst hb
    exact fun e => np (e ▸ ha)
  · have e1' : (z.μ ++ [p])[n]? = some a := e1
    rcases get_snoc e1' with e | ⟨hn, e⟩
    · have hlt : n < st.length := by rw [← w.len]; exact (List.getElem?_eq_some_iff.mp e).1
      rw [List.getElem?_append_left hlt] at e2
      have ne : a ≠ p := fun h => np (h ▸ List.mem_of_getElem? e)
      obtain ⟨h1, h2⟩ := w.obj n a u e e2
      exact ⟨h1, h2.mono Zw.push_le (upd_ne ne)⟩
    · subst e
      rw [hn, w.len, List.getElem?_append_right (Nat.le_refl _)] at e2
      simp at e2
      subst e2
      exact ⟨hg, vs, upd_same, r.mono Zw.push_le⟩
  · obtain ⟨h1, h2⟩ := w.noT q hq
    refine ⟨h1, fun hm => ?_⟩
    rcases List.mem_append.mp hm with hm | hm
    · exact h2 hm
    · rw [List.mem_singleton] at hm
      exact w.neT hp q hq hm
  · obtain ⟨h1, h0, h2, h3⟩ := w.fr a u e
    have ne := ne_of_none h1 hp
    refine ⟨by rw [upd_ne ne]; exact h1, h0, fun hm => ?_, h3⟩
    rcases List.mem_append.mp hm with hm | hm
    · exact h2 hm
    · rw [List.mem_singleton] at hm
      exact ne hm
  · show (z.μ ++ [p])[st.length]? = some p
    rw [← w.len, List.getElem?_append_right (Nat.le_refl _)]
    simp
theorem tabs_put {a : Addr} {us vs : List V} (t : LamX.Tabs T H) (hu : H a = some (.lst us)) : LamX.Tabs T (upd H a (.lst vs)) := by
  intro p hp
  obtain ⟨ps, h1, h2⟩ := t p hp
  have hne : ∀ {b : Addr} {o : HO}, H b = some o → o ≠ .lst us → b ≠ a := fun {b o} e d h => by
    subst h
    rw [hu] at e
    exact d (Option.some.inj e).symm
  refine ⟨ps, by rw [upd_ne (hne h1 (fun e => by cases e))]; exact h1, h2.1, fun pos cv hcv => ?_⟩
  obtain ⟨c0, q1, q2⟩ := h2.2 pos cv hcv
  refine ⟨c0, q1, ?_⟩
  rw [upd_ne (hne q2 (fun e => by unfold LamX.CodeO at e; cases e))]
  exact q2
/-- a list of the store is changed -/
theorem Wf.put {n : Nat} {a : Addr} {vs : List V} {ds es : List D} (w : Wf c T z st H) (ha : z.μ[n]? = some a) (hs : st[n]? = some (.lst es)) (r : Rps c z vs ds) : Wf c T z (st.set n (.lst ds)) (upd H a (.lst vs)) := by
  obtain ⟨hg, us, hu, _⟩ := w.obj n a _ ha hs
  have hlt : n < st.length := (List.getElem?_eq_some_iff.mp hs).1
  refine ⟨fun b u e => ?_, by rw [List.length_set]; exact w.len, w.nd, fun m b u e1 e2 => ?_, ?_, w.noT, fun b u e => ?_⟩
  · rw [upd_ne (ne_of_none e hg)]
    exact w.sub _ _ e
  · by_cases hm : m = n
    · subst hm
      rw [ha] at e1
      cases e1
      rw [List.getElem?_set_self hlt] at e2
      cases e2
      exact ⟨hg, vs, upd_same, r⟩
    · rw [List.getElem?_set_ne (Ne.symm hm)] at e2
      obtain ⟨h1, h2⟩ := w.obj m b u e1 e2
      have ne : b ≠ a := fun h => by
        subst h
        exact hm ((List.getElem_inj w.nd).mp ((List.getElem?_eq_some_iff.mp e1).2.trans (List.getElem?_eq_some_iff.mp ha).2.symm) )
      exact ⟨h1, h2.mono (Le.refl z) (upd_ne ne)⟩
  · exact tabs_put w.tab hu
  · obtain ⟨h1, h2⟩ := w.fr b u e
    have ne : b ≠ a := fun h => h2.2.1 (h ▸ List.mem_of_getElem? ha)
    exact ⟨by rw [upd_ne ne]; exact h1, h2⟩
mutual
/-- another set of things that are left alone -/
theorem RpF {F' : Hp} : ∀ {v : V} {d : D}, Rp c z v d → Rp c ⟨z.G, z.μ, F'⟩ v d
  | _, _, .non => .non
  | _, _, .bl b => .bl b
  | _, _, .int i => .int i
  | _, _, .str s => .str s
  | _, _, .tup s r => .tup s (RpsF r)
  | _, _, .lst s r => .lst s (RpsF r)
  | _, _, .ref e => .ref e
  | _, _, .fn a b => .fn a b
  | _, _, .ty n => .ty n
  | _, _, .scr s => .scr s
theorem RpsF {F' : Hp} : ∀ {vs : List V} {ds : List D}, Rps c z vs ds → Rps c ⟨z.G, z.μ, F'⟩ vs ds
  | _, _, .nil => .nil
  | _, _, .cons a b => .cons (RpF a) (RpsF b)
end
theorem RpOF {F' : Hp} {a : Addr} : ∀ {o : MO}, RpO c z H a o → RpO c ⟨z.G, z.μ, F'⟩ H a o
  | .lst _, ⟨vs, x, r⟩ => ⟨vs, x, RpsF r⟩
  | .ins _ fs, ⟨C, dx, vs, m, x, r⟩ => by
    refine ⟨C, dx, vs, m, x, ?_⟩
    clear x m
    induction r with
    | nil => exact .nil
    | cons a _ ih => exact .cons (RpF a) ih
theorem Rp.monoG {z' : Zw} (h : Lg z z') {v : V} {d : D} (r : Rp c z v d) : Rp c z' v d := RpF (z := ⟨z'.G, z'.μ, z.F⟩) (F' := z'.F) (r.mono h.le)
theorem Rps.monoG {z' : Zw} (h : Lg z z') {v : List V} {d : List D} (r : Rps c z v d) : Rps c z' v d := RpsF (z := ⟨z'.G, z'.μ, z.F⟩) (F' := z'.F) (r.mono h.le)
/-- a thing that nobody knows of -/
theorem Wf.more {p : Addr} {o : HO} (w : Wf c T z st H) (hp : H p = none) : Wf c T z st (upd H p o) := by
  refine ⟨fun a u e => ?_, w.len, w.nd, fun n a u e1 e2 => ?_, tabs_upd w.tab hp, w.noT, fun a u e => ?_⟩
  · rw [upd_ne (ne_of_none e (w.noG hp))]
    exact w.sub _ _ e
  · have ne : a ≠ p := fun h => w.notin hp (h ▸ List.mem_of_getElem? e1)
    obtain ⟨h1, h2⟩ := w.obj n a u e1 e2
    exact ⟨h1, h2.mono (Le.refl z) (upd_ne ne)⟩
  · obtain ⟨h1, h2⟩ := w.fr a u e
    exact ⟨by rw [upd_ne (ne_of_none h1 hp)]; exact h1, h2⟩
/-- .. of the heap as it stands -/
theorem Wf.withF {F' : Hp} (w : Wf c T z st H) (h : ∀ a o, F' a = some o → H a = some o ∧ z.G a = none ∧ a ∉ z.μ ∧ (∀ p ∈ T, p.1 ≠ a) ∧ ∃ vs, o = .lst vs) : Wf c T ⟨z.G, z.μ, F'⟩ st H :=
  ⟨w.sub, w.len, w.nd, fun n a o e1 e2 => let ⟨h1, h2⟩ := w.obj n a o e1 e2; ⟨h1, RpOF h2⟩, w.tab, w.noT, h⟩
end

/-- an error's object, by its class and its own dict -/
def ErOk (c : Cc) (z : Zw) (e : Er) (cls : Value) (dd : Option Addr) : Prop := (∃ C, cls = .ref C ∧ c.mg (Str.ofString e.cls) = some (.ref C)) ∧
  match dd with
  | none => e.fs = []
  | some d => ∃ fs, z.G d = some (.xd fs) ∧ Rpf c z fs e.fs

end Bw
set_option linter.all false
set_option autoImplicit false
set_option maxRecDepth 100000
/-! Operators by data. -/
namespace Bw
open PySem PySem.Spec PyProof.Rows L2
theorem imp_PE {X : Cx} {e : PySem.Expr} {t t' : TE} (h : PE X e t) (k : ∀ σ H Q, t' σ H Q → t σ H Q) : PE X e t' :=
  ⟨fun pins s σ H Q I q => h.run pins s σ H Q I (k σ H Q q)⟩
theorem imp_PT {X : Cx} {e : PySem.Expr} {t t' : TT} (h : PT X e t) (k : ∀ σ H Q, t' σ H Q → t σ H Q) : PT X e t' :=
  ⟨fun pins s σ H Q I q => h.run pins s σ H Q I (k σ H Q q)⟩
theorem imp_PW {X : Cx} {e : PySem.Expr} {t t' : TT} (h : PW X e t) (k : ∀ σ H Q, t' σ H Q → t σ H Q) : PW X e t' :=
  ⟨fun whole pins s σ H Q I q => h.run whole pins s σ H Q I (k σ H Q q)⟩
theorem imp_PA {X : Cx} {es : List PySem.Expr} {t t' : TA} (h : PA X es t) (k : ∀ σ H Q, t' σ H Q → t σ H Q) : PA X es t' :=
  ⟨fun pos pins s σ H Q I q => h.run pos pins s σ H Q I (k σ H Q q)⟩
theorem imp_PS {X : Cx} {e : PySem.Stmt} {t t' : TS} (h : PS X e t) (k : ∀ D σ H, t' D σ H → t D σ H) : PS X e t' :=
  ⟨fun pins s σ H D I q => h.run pins s σ H D I (k D σ H q)⟩
theorem imp_PSs {X : Cx} {e : List PySem.Stmt} {t t' : TS} (h : PSs X e t) (k : ∀ D σ H, t' D σ H → t D σ H) : PSs X e t' :=
  ⟨fun pins s σ H D I q => h.run pins s σ H D I (k D σ H q)⟩

/-- what holds of a context -/
structure Gd (X : Cx) (c : Cc) (T : List (Addr × Str)) (W : WX) : Prop where
  K : X.K = c.K
  mg : X.mg = c.mg
  nd : X.N.Nodup
  tk : Takes X W
  dp : X.A.depth + 5 < recursionLimit
  un : X.A.units + 200 < cLine

/-- what an operation on data asks of values -/
def r2 (c : Cc) (T : List (Addr × Str)) (f : D → D → Store → Option D) : R2 := fun x y H Q => ∃ z st dx dy d, Wf c T z st H ∧ Rp c z x dx ∧ Rp c z y dy ∧ f dx dy st = some d ∧
  ∀ z' H' v, Le z z' → Wf c T z' st H' → Rp c z' v d → Q v H'
def r1 (c : Cc) (T : List (Addr × Str)) (f : D → Store → Option D) : V → Hp → VK → Prop := fun x H Q => ∃ z st dx d, Wf c T z st H ∧ Rp c z x dx ∧ f dx st = some d ∧
  ∀ z' H' v, Le z z' → Wf c T z' st H' → Rp c z' v d → Q v H'
/-- .. of a list of arguments -/
def rN (c : Cc) (T : List (Addr × Str)) (f : List D → Store → Option D) : List V → Hp → VK → Prop := fun xs H Q => ∃ z st ds d, Wf c T z st H ∧ Rps c z xs ds ∧ f ds st = some d ∧
  ∀ z' H' v, Le z z' → Wf c T z' st H' → Rp c z' v d → Q v H'

section
variable {X : Cx} {c : Cc} {T : List (Addr × Str)}
theorem Rp.intV {z : Zw} {v : V} {i : Int} (h : Rp c z v (.int i)) : v = .int i := by cases h; rfl
theorem Rp.blV {z : Zw} {v : V} {b : Bool} (h : Rp c z v (.bl b)) : v = .bl b := by cases h; rfl
theorem Rp.strV {z : Zw} {v : V} {s : List Nat} (h : Rp c z v (.str s)) : v = .str (strOf s) := by cases h; rfl
theorem Rp.nonV {z : Zw} {v : V} (h : Rp c z v .non) : v = .non := by cases h; rfl

theorem sz_of {n : Nat} (h : Sz n = true) : n ≤ sizeLine := by
  rw [sizeLine_eq]
  exact of_decide_eq_true h
theorem strOf_len (s : List Nat) : (strOf s).length = s.length := by
  show s.toArray.size = _
  simp
theorem strOf_app (a b : List Nat) : strOf a ++ strOf b = strOf (a ++ b) := by
  show (⟨(strOf a).cps ++ (strOf b).cps⟩ : Str) = _
  simp
theorem strOf_inj {a b : List Nat} : strOf a = strOf b ↔ a = b := by
  constructor
  · intro h
    have := congrArg (fun s : Str => s.cps.toList) h
    simpa using this
  · intro h; rw [h]

/-! ### arithmetic -/
theorem bits_le {i : Int} : Builtin.Int.intBits i ≤ bits i + 1 := by
  unfold Builtin.Int.intBits bits
  split <;> omega
theorem mulOk_of {i j : Int} (h : mulOk i j = true) : IntMulOk i j := by
  unfold mulOk at h
  rw [Bool.or_eq_true, Bool.or_eq_true] at h
  rcases h with (h | h) | h
  · have := of_decide_eq_true h
    exact .of_left (intBits_le_64 (by omega) (by omega))
  · have := of_decide_eq_true h
    exact .of_right (intBits_le_64 (by omega) (by omega))
  · exact CMulW.ok (show i.natAbs.log2 + j.natAbs.log2 < 1000000 from of_decide_eq_true h)
theorem divOk_of {i j : Int} (h : divOk i j = true) : j ≠ 0 ∧ Builtin.divisionGoesByPylong i j = false := by
  unfold divOk at h
  rw [Bool.and_eq_true, Bool.or_eq_true] at h
  obtain ⟨h1, h2⟩ := h
  have h1 := of_decide_eq_true h1
  refine ⟨h1, ?_⟩
  rcases h2 with h2 | h2
  · exact PyProof.noPylong_of_log2 (of_decide_eq_true h2)
  · have h2 := of_decide_eq_true h2
    unfold bits at h2
    show (decide ((if j == 0 then 0 else j.natAbs.log2 / 30 + 1) > 300) && decide ((if i == 0 then 0 else i.natAbs.log2 / 30 + 1) > (if j == 0 then 0 else j.natAbs.log2 / 30 + 1) + 150)) = false
    have k : ¬ ((if i == 0 then 0 else i.natAbs.log2 / 30 + 1) > (if j == 0 then 0 else j.natAbs.log2 / 30 + 1) + 150) := by
      rw [if_neg (show ¬ (j == 0) = true by simpa using h1)]
      split <;> omega
    rw [decide_eq_false k, Bool.and_false]
theorem foldl_app {α : Type} : ∀ (l : List (Array α)) (a : Array α), (l.foldl (· ++ ·) a).toList = a.toList ++ (l.map Array.toList).flatten
  | [], a => by simp
  | b :: l, a => by
    rw [List.foldl_cons, foldl_app l (a ++ b)]
    simp
theorem rep_eq {α : Type} (l : List α) : ∀ n : Nat, rep l n = (List.replicate n l).flatten
  | 0 => rfl
  | n + 1 => by
    show l ++ rep l n = _
    rw [rep_eq l n, List.replicate_succ, List.flatten_cons]


theorem o_add (hK : X.K = c.K) : OpR X (binaryOp .Add) (r2 c T fun a b _ => addD a b) := by
  obtain ⟨K, mg⟩ := c
  cases hK
  intro pins s σ H x y v u Q I rx ry h
  obtain ⟨z, st, dx, dy, d, w, h1, h2, e, q⟩ := h
  have e : addD dx dy = some d := e
  unfold addD at e
  split at e
  · cases e
    rw [h1.intV] at rx
    rw [h2.intV] at ry
    exact op_add pins s σ H _ _ v u Q I rx ry ⟨_, _, rfl, rfl, q z H _ (Le.refl z) w (.int _)⟩
  · split at e
    · rename_i hs
      cases e
      rw [h1.strV] at rx
      rw [h2.strV] at ry
      exact op_add_str pins s σ H _ _ v u Q I rx ry ⟨_, _, rfl, rfl, by rw [strOf_len, strOf_len]; exact sz_of hs, by rw [strOf_app]; exact q z H _ (Le.refl z) w (.str _)⟩
    · cases e
  · split at e
    · rename_i hs
      cases e
      cases h1 with
      | tup s1 r1 =>
        cases h2 with
        | tup s2 r2 =>
          refine op_catA pins s σ H _ _ v u Q I rx ry ⟨_, _, _, _, rfl, rfl, w.tup s1, w.tup s2, by rw [r1.len, r2.len]; exact sz_of hs, fun h => ?_, fun h h' => ?_, fun h h' p hp => ?_⟩
          · subst h
            cases r1
            exact q z H _ (Le.refl z) w (.tup s2 r2)
          · subst h'
            cases r2
            exact q z H _ (Le.refl z) w (by rw [List.append_nil]; exact .tup s1 r1)
          · obtain ⟨l, w', r⟩ := w.newTup hp (r1.app r2)
            exact q _ _ _ l w' r
    · cases e
  · split at e
    · rename_i hs
      cases e
      cases h1 with
      | lst s1 r1 =>
        cases h2 with
        | lst s2 r2 =>
          refine op_cat pins s σ H _ _ v u Q I rx ry ⟨_, _, _, _, rfl, rfl, w.sub _ _ s1, w.sub _ _ s2, by rw [r1.len, r2.len]; exact sz_of hs, fun p hp => ?_⟩
          obtain ⟨l, w', r⟩ := w.newLst hp (r1.app r2)
          exact q _ _ _ l w' r
    · cases e
  · cases e

theorem o_sub : OpR X (binaryOp .Sub) (r2 c T fun a b _ => subD a b) := by
  intro pins s σ H x y v u Q I rx ry h
  obtain ⟨z, st, dx, dy, d, w, h1, h2, e, q⟩ := h
  have e : subD dx dy = some d := e
  unfold subD at e
  split at e
  · cases e
    rw [h1.intV] at rx
    rw [h2.intV] at ry
    exact op_sub pins s σ H _ _ v u Q I rx ry ⟨_, _, rfl, rfl, q z H _ (Le.refl z) w (.int _)⟩
  · cases e
theorem o_div : OpR X (binaryOp .FloorDiv) (r2 c T fun a b _ => divD a b) := by
  intro pins s σ H x y v u Q I rx ry h
  obtain ⟨z, st, dx, dy, d, w, h1, h2, e, q⟩ := h
  have e : divD dx dy = some d := e
  unfold divD at e
  split at e
  · split at e
    · rename_i hs
      cases e
      rw [h1.intV] at rx
      rw [h2.intV] at ry
      obtain ⟨t, rfl⟩ := rx
      obtain ⟨t', rfl⟩ := ry
      obtain ⟨k1, k2⟩ := divOk_of hs
      exact floordiv_int k1 ⟨V.int _, H, I.tok _, ⟨_, rfl⟩, q z H _ (Le.refl z) w (.int _)⟩ (.inl k2)
    · cases e
  · cases e
theorem o_mod : OpR X (binaryOp .Mod) (r2 c T fun a b _ => modD a b) := by
  intro pins s σ H x y v u Q I rx ry h
  obtain ⟨z, st, dx, dy, d, w, h1, h2, e, q⟩ := h
  have e : modD dx dy = some d := e
  unfold modD at e
  split at e
  · split at e
    · rename_i hs
      cases e
      rw [h1.intV] at rx
      rw [h2.intV] at ry
      exact op_modN pins s σ H _ _ v u Q I rx ry ⟨_, _, rfl, rfl, hs, q z H _ (Le.refl z) w (.int _)⟩
    · cases e
  · cases e
theorem pow_sz {i j : Int} (h : powOk i j = true) : 0 ≤ j ∧ (Builtin.Int.intBits i : Int) * j ≤ 2 ^ 27 := by
  unfold powOk at h
  rw [Bool.and_eq_true] at h
  have h1 := of_decide_eq_true h.1
  have h2 := of_decide_eq_true h.2
  refine ⟨h1, ?_⟩
  have b := bits_le (i := i)
  have : (Builtin.Int.intBits i : Int) * j ≤ ((bits i : Int) + 1) * j := Int.mul_le_mul_of_nonneg_right (by omega) h1
  have e : (2 : Int) ^ 27 = 134217728 := by decide
  omega
theorem o_pow : OpR X (binaryOp .Pow) (r2 c T fun a b _ => powD a b) := by
  intro pins s σ H x y v u Q I rx ry h
  obtain ⟨z, st, dx, dy, d, w, h1, h2, e, q⟩ := h
  have e : powD dx dy = some d := e
  unfold powD at e
  split at e
  · split at e
    · rename_i hs
      cases e
      rw [h1.intV] at rx
      rw [h2.intV] at ry
      obtain ⟨t, rfl⟩ := rx
      obtain ⟨t', rfl⟩ := ry
      obtain ⟨k1, k2⟩ := pow_sz hs
      exact pow_int k1 k2 ⟨V.int _, H, I.tok _, ⟨_, rfl⟩, q z H _ (Le.refl z) w (.int _)⟩
    · cases e
  · cases e
theorem o_shl : OpR X (binaryOp .LShift) (r2 c T fun a b _ => shlD a b) := by
  intro pins s σ H x y v u Q I rx ry h
  obtain ⟨z, st, dx, dy, d, w, h1, h2, e, q⟩ := h
  have e : shlD dx dy = some d := e
  unfold shlD at e
  split at e
  · rename_i i0 j0
    split at e
    · rename_i hs
      cases e
      rw [h1.intV] at rx
      rw [h2.intV] at ry
      obtain ⟨t, rfl⟩ := rx
      obtain ⟨t', rfl⟩ := ry
      unfold shlOk at hs
      rw [Bool.and_eq_true] at hs
      have k1 := of_decide_eq_true hs.1
      have k2 := of_decide_eq_true hs.2
      have e : (2 : Int) ^ 27 = 134217728 := by decide
      refine lshift_int k1 (Int.le_trans (Int.add_le_add_right (Int.ofNat_le.mpr bits_le) _) (by omega)) ⟨V.int _, H, I.tok _, ⟨_, rfl⟩, q z H _ (Le.refl z) w (.int _)⟩
    · cases e
  · cases e
theorem mulStr {s : Shared} {a : List Nat} {j : Int} {t u : Tok} {Q : Value → Shared → Prop} {E : Value → Shared → Prop} (h0 : 0 ≤ j) (h1 : j ≤ 16777216) (h2 : a.length * j.toNat ≤ 16777216)
    (hq : ∀ s' t', (∃ k, s' = { s with toks := k }) → Q (.str (strOf (rep a j.toNat)) t') s') : wpAny (model X.prog X.w) X.A (binaryOp .Mult (.str (strOf a) t) (.int j u)) Q E s := by
  have hl : (strOf a).length = a.length := strOf_len a
  refine P.mul_str ?_ (fun h h' => ?_) (fun h h' => ?_) ?_
  · rw [Bool.or_eq_false_iff]
    exact ⟨decide_eq_false (by omega), decide_eq_false (by omega)⟩
  · rw [hl]
    have hj : 1 ≤ j := by omega
    have : (a.length : Int) * j ≤ 16777216 := by
      have e : ((a.length * j.toNat : Nat) : Int) ≤ 16777216 := by
        generalize a.length * j.toNat = m at h2
        omega
      rw [Int.natCast_mul, Int.toNat_of_nonneg h0] at e
      exact e
    have k : (a.length : Int) ≤ (2 ^ 63 - 1) / j := by
      rw [Int.le_ediv_iff_mul_le (by omega)]
      omega
    omega
  · rw [hl]
    show decide (_ > sizeLine) = false
    rw [sizeLine_eq]
    exact decide_eq_false (by omega)
  · by_cases c0 : j < 1
    · rw [if_pos c0]
      have : j.toNat = 0 := by omega
      refine ⟨by decide, ?_⟩
      have := hq { s with toks := s.toks + 1 } s.toks ⟨_, rfl⟩
      rw [‹j.toNat = 0›] at this
      exact this
    · rw [if_neg c0]
      by_cases c1 : (j == 1 || (strOf a).length == 0) = true
      · rw [if_pos c1]
        have e : rep a j.toNat = a := by
          rw [Bool.or_eq_true] at c1
          rcases c1 with c1 | c1
          · have : j = 1 := by simpa using c1
            subst this
            simp [rep]
          · have : a.length = 0 := by rw [hl] at c1; simpa using c1
            have : a = [] := List.length_eq_zero_iff.mp this
            subst this
            rw [rep_eq]
            simp
        have := hq s t ⟨_, rfl⟩
        rw [e] at this
        exact this
      · rw [if_neg c1]
        have e : (⟨(List.replicate j.toNat (strOf a).cps).foldl (· ++ ·) #[]⟩ : Str) = strOf (rep a j.toNat) := by
          rw [rep_eq]
          show Str.mk _ = Str.mk _
          congr 1
          apply Array.toList_inj.mp
          rw [foldl_app]
          simp
        refine ⟨?_, ?_⟩
        · rw [e, strOf_len, rep_eq, sizeLine_eq]
          simp
          rw [Nat.mul_comm]
          exact h2
        · rw [e]
          exact hq { s with toks := s.toks + 1 } s.toks ⟨_, rfl⟩
theorem o_mul (hK : X.K = c.K) : OpR X (binaryOp .Mult) (r2 c T fun a b _ => mulD a b) := by
  obtain ⟨K, mg⟩ := c
  cases hK
  intro pins s σ H x y v u Q I rx ry h
  obtain ⟨z, st, dx, dy, d, w, h1, h2, e, q⟩ := h
  have e : mulD dx dy = some d := e
  unfold mulD at e
  split at e
  · split at e
    · rename_i hs
      cases e
      rw [h1.intV] at rx
      rw [h2.intV] at ry
      obtain ⟨t, rfl⟩ := rx
      obtain ⟨t', rfl⟩ := ry
      exact mul_int ⟨V.int _, H, I.tok _, ⟨_, rfl⟩, q z H _ (Le.refl z) w (.int _)⟩ (mulOk_of hs)
    · cases e
  · split at e
    · rename_i hs
      cases e
      rw [h1.strV] at rx
      rw [h2.intV] at ry
      obtain ⟨t, rfl⟩ := rx
      obtain ⟨t', rfl⟩ := ry
      rw [Bool.and_eq_true, Bool.and_eq_true] at hs
      have k1 := of_decide_eq_true hs.1.1
      have k2 : _ ≤ 16777216 := of_decide_eq_true hs.1.2
      have k3 : _ ≤ 16777216 := of_decide_eq_true hs.2
      refine mulStr k1 (by omega) k3 fun s' t' hs' => ?_
      obtain ⟨k, rfl⟩ := hs'
      exact ⟨V.str _, H, I.tok _, ⟨_, rfl⟩, q z H _ (Le.refl z) w (.str _)⟩
    · cases e
  · split at e
    · rename_i hs
      cases e
      cases h1 with
      | tup s1 r1 =>
        rw [h2.intV] at ry
        rw [Bool.and_eq_true, Bool.and_eq_true, Bool.and_eq_true] at hs
        have k1 := of_decide_eq_true hs.1.1.1
        have k2 := of_decide_eq_true hs.1.1.2
        have k3 := of_decide_eq_true hs.1.2
        refine op_repT pins s σ H _ _ v u Q I rx ry ⟨_, _, _, rfl, rfl, w.tup s1, fun h => ?_, k1, k2, by rw [r1.len]; exact k3, fun p hp => ?_⟩
        · subst h
          cases r1
          simp at hs
        · have rr : ∀ n : Nat, Rps ⟨X.K, mg⟩ z (List.replicate n _).flatten (rep _ n) := fun n => by
            induction n with
            | zero => exact .nil
            | succ n ih =>
              rw [List.replicate_succ, List.flatten_cons]
              exact r1.app ih
          obtain ⟨l, w', r⟩ := w.newTup hp (rr _)
          exact q _ _ _ l w' r
    · cases e
  · cases e
/-! ### equality -/
mutual
def py : D → PyData
  | .bl b => .bool b
  | .int i => .int i
  | .str s => .str (strOf s)
  | .tup ds => .tuple (pys ds)
  | .lst ds => .list (pys ds)
  | _ => .none
def pys : List D → List PyData
  | [] => []
  | d :: ds => py d :: pys ds
end
mutual
theorem py_dp (hK : X.K = c.K) {z : Zw} {st : Store} {H : Hp} (w : Wf c T z st H) : ∀ (n : Nat) (d : D) (v : V), shp n d = true → Rp c z v d → Dp X.K H v (py d)
  | _, .non, _, _, h => by cases h; unfold py; exact .non
  | _, .bl b, _, _, h => by cases h; unfold py; exact .bl b
  | _, .int i, _, _, h => by cases h; unfold py; exact .int i
  | _, .str s, _, _, h => by cases h; unfold py; exact .str _
  | 0, .tup ds, _, e, h => by unfold shp at e; cases e
  | 0, .lst ds, _, e, h => by unfold shp at e; cases e
  | n + 1, .tup ds, _, e, h => by
    unfold shp at e
    cases h with
    | tup s r =>
      unfold py
      exact .tup (by rw [hK]; exact w.tup s) (pys_dp hK w n ds _ e r)
  | n + 1, .lst ds, _, e, h => by
    unfold shp at e
    cases h with
    | lst s r =>
      unfold py
      exact .lst (.inl (.inl (w.sub _ _ s))) (pys_dp hK w n ds _ e r)
  | 0, .ref _, _, e, _ => by simp [shp] at e
  | n + 1, .ref _, _, e, _ => by simp [shp] at e
  | 0, .fn _, _, e, _ => by simp [shp] at e
  | n + 1, .fn _, _, e, _ => by simp [shp] at e
  | 0, .ty _, _, e, _ => by simp [shp] at e
  | n + 1, .ty _, _, e, _ => by simp [shp] at e
  | 0, .scr _, _, e, _ => by simp [shp] at e
  | n + 1, .scr _, _, e, _ => by simp [shp] at e
theorem pys_dp (hK : X.K = c.K) {z : Zw} {st : Store} {H : Hp} (w : Wf c T z st H) : ∀ (n : Nat) (ds : List D) (vs : List V), shps n ds = true → Rps c z vs ds → DpAll X.K H vs (pys ds)
  | _, [], _, _, h => by cases h; unfold pys; exact .nil
  | n, d :: ds, _, e, h => by
    unfold shps at e
    rw [Bool.and_eq_true] at e
    cases h with
    | cons a b =>
      unfold pys
      exact .cons (py_dp hK w n d _ e.1 a) (pys_dp hK w n ds _ e.2 b)
end
mutual
theorem py_shp : ∀ (n : Nat) (d : D), shp n d = true → (py d).canLay0 = true ∧ (py d).depth ≤ n
  | n, .non, _ => by simp [py, PyData.canLay0, PyData.depth]
  | n, .bl _, _ => by simp [py, PyData.canLay0, PyData.depth]
  | n, .int _, _ => by simp [py, PyData.canLay0, PyData.depth]
  | n, .str s, e => by
    have e : s.all (· < 0x110000) = true := by cases n <;> exact e
    refine ⟨?_, by simp [py, PyData.depth]⟩
    unfold py PyData.canLay0
    show (strOf s).cps.all (· < 0x110000) = true
    simpa using e
  | 0, .tup ds, e => by unfold shp at e; cases e
  | 0, .lst ds, e => by unfold shp at e; cases e
  | n + 1, .tup ds, e => by
    unfold shp at e
    obtain ⟨a, b⟩ := pys_shp n ds e
    unfold py PyData.canLay0 PyData.depth
    exact ⟨a, by omega⟩
  | n + 1, .lst ds, e => by
    unfold shp at e
    obtain ⟨a, b⟩ := pys_shp n ds e
    unfold py PyData.canLay0 PyData.depth
    exact ⟨a, by omega⟩
  | 0, .ref _, e => by simp [shp] at e
  | n + 1, .ref _, e => by simp [shp] at e
  | 0, .fn _, e => by simp [shp] at e
  | n + 1, .fn _, e => by simp [shp] at e
  | 0, .ty _, e => by simp [shp] at e
  | n + 1, .ty _, e => by simp [shp] at e
  | 0, .scr _, e => by simp [shp] at e
  | n + 1, .scr _, e => by simp [shp] at e
theorem pys_shp : ∀ (n : Nat) (ds : List D), shps n ds = true → PyData.canLayAll0 (pys ds) = true ∧ PyData.depthAll (pys ds) ≤ n
  | n, [], _ => by simp [pys, PyData.canLayAll0, PyData.depthAll]
  | n, d :: ds, e => by
    unfold shps at e
    rw [Bool.and_eq_true] at e
    obtain ⟨a, b⟩ := py_shp n d e.1
    obtain ⟨a', b'⟩ := pys_shp n ds e.2
    unfold pys PyData.canLayAll0 PyData.depthAll
    rw [a, a']
    exact ⟨rfl, by omega⟩
end
theorem shaped_of {n : Nat} {d : D} (h : shp n d = true) (hn : n ≤ 64) : SeqAt.shaped (py d) = true := by
  obtain ⟨a, b⟩ := py_shp n d h
  unfold SeqAt.shaped
  rw [a, Bool.true_and]
  exact decide_eq_true (by omega)
theorem beq_strOf (a b : List Nat) : (strOf a == strOf b) = (a == b) := by
  rw [Bool.eq_iff_iff]
  simp
mutual
theorem py_eqv : ∀ (n m : Nat) (x y : D), shp n x = true → shp m y = true → PyData.eqv (py x) (py y) = eqD x y
  | n, m, x, y, hx, hy => by
    cases x <;> cases y <;> first
      | (simp [shp] at hx; done)
      | (simp [shp] at hy; done)
      | (cases n <;> simp [shp] at hx; done)
      | (cases m <;> simp [shp] at hy; done)
      | (simp only [py, PyData.eqv, eqD]; done)
      | (simp only [py, PyData.eqv, eqD, beq_strOf]; done)
      | skip
    · rename_i xs ys
      cases n with
      | zero => unfold shp at hx; cases hx
      | succ n =>
        cases m with
        | zero => unfold shp at hy; cases hy
        | succ m =>
          unfold shp at hx hy
          simp only [py, PyData.eqv, eqD]
          exact pys_eqv n m xs ys hx hy
    · rename_i xs ys
      cases n with
      | zero => unfold shp at hx; cases hx
      | succ n =>
        cases m with
        | zero => unfold shp at hy; cases hy
        | succ m =>
          unfold shp at hx hy
          simp only [py, PyData.eqv, eqD]
          exact pys_eqv n m xs ys hx hy
theorem pys_eqv : ∀ (n m : Nat) (xs ys : List D), shps n xs = true → shps m ys = true → PyData.eqvAll (pys xs) (pys ys) = eqDs xs ys
  | _, _, [], [], _, _ => by simp only [pys, PyData.eqvAll, eqDs]
  | _, _, [], _ :: _, _, _ => by simp only [pys, PyData.eqvAll, eqDs]
  | _, _, _ :: _, [], _, _ => by simp only [pys, PyData.eqvAll, eqDs]
  | n, m, x :: xs, y :: ys, hx, hy => by
    unfold shps at hx hy
    rw [Bool.and_eq_true] at hx hy
    simp only [pys, PyData.eqvAll, eqDs]
    rw [py_eqv n m x y hx.1 hy.1, pys_eqv n m xs ys hx.2 hy.2]
end
end
end Bw
set_option linter.all false
set_option autoImplicit false
set_option maxRecDepth 100000
/-! Comparisons, truth, items and slices by data. -/
namespace Bw
open PySem PySem.Spec PyProof.Rows L2
section
variable {X : Cx} {c : Cc} {T : List (Addr × Str)}
theorem fin_blD {z : Zw} {st : Store} {pins : List (Addr × Obj)} {σ : L2.St} {H : Hp} {s : Shared} {Q : VK} {b : Bool} (I : Inv X pins σ H s) (w : Wf c T z st H)
    (q : ∀ z' H' v, Le z z' → Wf c T z' st H' → Rp c z' v (.bl b) → Q v H') : EP X pins σ Q (.bool b) s := ⟨.bl b, H, I, rfl, q z H _ (Le.refl z) w (.bl b)⟩
/-- a list of the store, read -/
theorem rd_dp (hK : X.K = c.K) {z : Zw} {st : Store} {H : Hp} (w : Wf c T z st H) {n : Nat} {d : D} {v : V} (h : shp n (rd st d) = true) (r : Rp c z v d) : Dp X.K H v (py (rd st d)) := by
  unfold rd at h ⊢
  split at h
  · rename_i k
    split at h
    · rename_i ds hk
      cases r with
      | ref e =>
        obtain ⟨_, vs, h1, h2⟩ := w.obj k _ _ e hk
        cases n with
        | zero => simp [shp] at h
        | succ n =>
          unfold shp at h
          unfold py
          exact .lst (.inl (.inl h1)) (pys_dp hK w n ds _ h h2)
    · cases n <;> simp [shp] at h
  · exact py_dp hK w n d v h r
theorem o_eq (hK : X.K = c.K) (hu : X.A.units + 64 < cLine) : OpR X (compareOp .Eq) (r2 c T fun a b st => (eqv st a b).map D.bl) := by
  intro pins s σ H x y v u Q I rx ry h
  obtain ⟨z, st, dx, dy, d, w, h1, h2, e, q⟩ := h
  have e : (eqv st dx dy).map D.bl = some d := e
  obtain ⟨b, e, rfl⟩ := Option.map_eq_some_iff.mp e
  unfold eqv at e
  split at e
  · rename_i b' hf
    cases e
    unfold flat2 at hf
    split at hf <;> cases hf <;> first
      | (cases h1; cases h2; exact op_eq pins s σ H _ _ v u Q I rx ry ⟨rfl, by simpa using q z H _ (Le.refl z) w (.bl _)⟩)
      | skip
  · split at e
    · rename_i hs
      cases e
      rw [Bool.and_eq_true] at hs
      refine op_eqD hu pins s σ H _ _ v u Q I rx ry ⟨_, _, rd_dp hK w hs.1 h1, rd_dp hK w hs.2 h2, shaped_of hs.1 (by decide), shaped_of hs.2 (by decide), ?_⟩
      rw [py_eqv 60 60 _ _ hs.1 hs.2]
      exact q z H _ (Le.refl z) w (.bl _)
    · cases e
theorem o_ne (hK : X.K = c.K) (hu : X.A.units + 64 < cLine) : OpR X (compareOp .NotEq) (r2 c T fun a b st => (eqv st a b).map fun k => D.bl (!k)) := by
  intro pins s σ H x y v u Q I rx ry h
  obtain ⟨z, st, dx, dy, d, w, h1, h2, e, q⟩ := h
  obtain ⟨b, e1, e2⟩ := Option.map_eq_some_iff.mp (show (eqv st dx dy).map (fun k => D.bl (!k)) = some d from e)
  subst e2
  clear e
  rename (eqv st dx dy = some b) => e
  unfold eqv at e
  split at e
  · rename_i b' hf
    cases e
    unfold flat2 at hf
    split at hf <;> cases hf <;> first
      | (cases h1; cases h2; exact op_ne pins s σ H _ _ v u Q I rx ry ⟨rfl, by simpa using q z H _ (Le.refl z) w (.bl _)⟩)
      | skip
  · split at e
    · rename_i hs
      cases e
      rw [Bool.and_eq_true] at hs
      refine op_neD hu pins s σ H _ _ v u Q I rx ry ⟨_, _, rd_dp hK w hs.1 h1, rd_dp hK w hs.2 h2, shaped_of hs.1 (by decide), shaped_of hs.2 (by decide), ?_⟩
      rw [py_eqv 60 60 _ _ hs.1 hs.2]
      exact q z H _ (Le.refl z) w (.bl _)
    · cases e
/-! ### order -/
theorem strLt_eq : ∀ a b : List Nat, strLt a b = decide (a < b)
  | [], [] => by simp [strLt]
  | [], _ :: _ => by simp [strLt]
  | _ :: _, [] => by simp [strLt]
  | x :: a, y :: b => by
    unfold strLt
    rw [strLt_eq a b]
    by_cases h : x < y
    · rw [if_pos h, eq_comm, decide_eq_true_iff, List.cons_lt_cons_iff]
      exact .inl h
    · rw [if_neg h]
      by_cases h2 : y < x
      · rw [if_pos h2, eq_comm, decide_eq_false_iff_not, List.cons_lt_cons_iff]
        rintro (k | ⟨k, _⟩) <;> omega
      · rw [if_neg h2]
        have : x = y := by omega
        subst this
        rw [Bool.eq_iff_iff, decide_eq_true_iff, decide_eq_true_iff, List.cons_lt_cons_iff]
        constructor
        · intro k; exact .inr ⟨rfl, k⟩
        · rintro (k | ⟨_, k⟩)
          · omega
          · exact k
theorem o_lt : OpR X (compareOp .Lt) (r2 c T fun a b _ => (ltD a b).map D.bl) := by
  intro pins s σ H x y v u Q I rx ry h
  obtain ⟨z, st, dx, dy, d, w, h1, h2, e0, q⟩ := h
  obtain ⟨b, e, e2⟩ := Option.map_eq_some_iff.mp (show (ltD dx dy).map D.bl = some d from e0)
  subst e2
  clear e0
  unfold ltD at e
  split at e
  · cases e; cases h1; cases h2
    exact op_lt pins s σ H _ _ v u Q I rx ry ⟨_, _, rfl, rfl, q z H _ (Le.refl z) w (.bl _)⟩
  · cases e; cases h1; cases h2
    exact op_lt_str pins s σ H _ _ v u Q I rx ry ⟨_, _, rfl, rfl, by have := q z H _ (Le.refl z) w (.bl _); rw [strLt_eq] at this; simpa using this⟩
  · cases e
theorem o_le : OpR X (compareOp .LtE) (r2 c T fun a b _ => (leD a b).map D.bl) := by
  intro pins s σ H x y v u Q I rx ry h
  obtain ⟨z, st, dx, dy, d, w, h1, h2, e0, q⟩ := h
  obtain ⟨b, e, e2⟩ := Option.map_eq_some_iff.mp (show (leD dx dy).map D.bl = some d from e0)
  subst e2
  clear e0
  unfold leD at e
  split at e
  · cases e; cases h1; cases h2
    exact op_le pins s σ H _ _ v u Q I rx ry ⟨_, _, rfl, rfl, q z H _ (Le.refl z) w (.bl _)⟩
  · cases e; cases h1; cases h2
    exact op_le_str pins s σ H _ _ v u Q I rx ry ⟨_, _, rfl, rfl, by have := q z H _ (Le.refl z) w (.bl _); rw [strLt_eq] at this; exact this⟩
  · cases e
theorem o_gt : OpR X (compareOp .Gt) (r2 c T fun a b _ => (gtD a b).map D.bl) := by
  intro pins s σ H x y v u Q I rx ry h
  obtain ⟨z, st, dx, dy, d, w, h1, h2, e0, q⟩ := h
  obtain ⟨b, e, e2⟩ := Option.map_eq_some_iff.mp (show (gtD dx dy).map D.bl = some d from e0)
  subst e2
  clear e0
  unfold gtD at e
  split at e
  · cases e; cases h1; cases h2
    exact op_gt pins s σ H _ _ v u Q I rx ry ⟨_, _, rfl, rfl, q z H _ (Le.refl z) w (.bl _)⟩
  · cases e; cases h1; cases h2
    exact op_gt_str pins s σ H _ _ v u Q I rx ry ⟨_, _, rfl, rfl, by have := q z H _ (Le.refl z) w (.bl _); rw [strLt_eq] at this; exact this⟩
  · cases e
theorem o_ge : OpR X (compareOp .GtE) (r2 c T fun a b _ => (geD a b).map D.bl) := by
  intro pins s σ H x y v u Q I rx ry h
  obtain ⟨z, st, dx, dy, d, w, h1, h2, e0, q⟩ := h
  obtain ⟨b, e, e2⟩ := Option.map_eq_some_iff.mp (show (geD dx dy).map D.bl = some d from e0)
  subst e2
  clear e0
  unfold geD at e
  split at e
  · cases e; cases h1; cases h2
    exact op_ge pins s σ H _ _ v u Q I rx ry ⟨_, _, rfl, rfl, q z H _ (Le.refl z) w (.bl _)⟩
  · cases e; cases h1; cases h2
    exact op_ge_str pins s σ H _ _ v u Q I rx ry ⟨_, _, rfl, rfl, by have := q z H _ (Le.refl z) w (.bl _); rw [strLt_eq] at this; exact this⟩
  · cases e
/-! ### is -/
theorem o_isN : OpR X (compareOp .Is) (r2 c T fun a b _ => match b with | .non => (isNone a).map D.bl | _ => none) := by
  intro pins s σ H x y v u Q I rx ry h
  obtain ⟨z, st, dx, dy, d, w, h1, h2, e, q⟩ := h
  dsimp only at e
  split at e
  · obtain ⟨b, e1, e2⟩ := Option.map_eq_some_iff.mp e
    subst e2
    clear e
    cases h2
    refine op_isN pins s σ H _ _ v u Q I rx ry ⟨rfl, ?_⟩
    have := q z H _ (Le.refl z) w (.bl _)
    unfold isNone at e1
    split at e1 <;> cases e1 <;> cases h1 <;> simpa using this
  · cases e
theorem o_notN : OpR X (compareOp .IsNot) (r2 c T fun a b _ => match b with | .non => (isNone a).map fun k => D.bl (!k) | _ => none) := by
  intro pins s σ H x y v u Q I rx ry h
  obtain ⟨z, st, dx, dy, d, w, h1, h2, e, q⟩ := h
  dsimp only at e
  split at e
  · obtain ⟨b, e1, e2⟩ := Option.map_eq_some_iff.mp e
    subst e2
    clear e
    cases h2
    refine op_notN pins s σ H _ _ v u Q I rx ry ⟨rfl, ?_⟩
    have := q z H _ (Le.refl z) w (.bl _)
    unfold isNone at e1
    split at e1 <;> cases e1 <;> cases h1 <;> simpa using this
  · cases e
theorem isBool_rel {z : Zw} {b k : Bool} {a : D} {x : V} {v : Value} (e : isBool b a = some k) (h : Rp c z x a) (r : L2.RelV x v) : plainIs v (.bool b) = true ∧ (v == Value.bool b) = k := by
  unfold isBool at e
  split at e <;> cases e <;> cases h
  · cases (show v = Value.bool _ from r)
    rename_i k
    refine ⟨rfl, ?_⟩
    cases k <;> cases b <;> rfl
  · cases (show v = Value.none from r); simp [plainIs]
  · obtain ⟨t, rfl⟩ := (show ∃ t, v = Value.int _ t from r); simp [plainIs]
  · obtain ⟨t, rfl⟩ := (show ∃ t, v = Value.str _ t from r); simp [plainIs]
  · cases (show v = Value.ref _ from r); simp [plainIs]
  · cases (show v = Value.ref _ from r); simp [plainIs]
  · cases (show v = Value.ref _ from r); simp [plainIs]
theorem o_isB : OpR X (compareOp .Is) (r2 c T fun a b _ => match b with | .bl b => (isBool b a).map D.bl | _ => none) := by
  intro pins s σ H x y v u Q I rx ry h
  obtain ⟨z, st, dx, dy, d, w, h1, h2, e, q⟩ := h
  dsimp only at e
  split at e
  · obtain ⟨b, e1, e2⟩ := Option.map_eq_some_iff.mp e
    subst e2
    clear e
    cases h2
    cases (show u = Value.bool _ from ry)
    obtain ⟨k1, k2⟩ := isBool_rel e1 h1 rx
    exact wpAny_is_plain k1 (by rw [k2]; exact fin_blD I w q)
  · cases e
theorem o_notB : OpR X (compareOp .IsNot) (r2 c T fun a b _ => match b with | .bl b => (isBool b a).map fun k => D.bl (!k) | _ => none) := by
  intro pins s σ H x y v u Q I rx ry h
  obtain ⟨z, st, dx, dy, d, w, h1, h2, e, q⟩ := h
  dsimp only at e
  split at e
  · obtain ⟨b, e1, e2⟩ := Option.map_eq_some_iff.mp e
    subst e2
    clear e
    cases h2
    cases (show u = Value.bool _ from ry)
    obtain ⟨k1, k2⟩ := isBool_rel e1 h1 rx
    exact wpAny_isNot_plain k1 (by rw [k2]; exact fin_blD I w q)
  · cases e
/-! ### in -/
theorem any_eqv {n m : Nat} {x : D} (hx : shp n x = true) : ∀ ys : List D, shps m ys = true → (pys ys).any (fun y => PyData.eqv y (py x)) = ys.any fun y => eqD y x
  | [], _ => by simp [pys]
  | y :: ys, h => by
    unfold shps at h
    rw [Bool.and_eq_true] at h
    simp only [pys, List.any_cons]
    rw [any_eqv hx ys h.2, py_eqv m n _ _ h.1 hx]
theorem o_in (hK : X.K = c.K) (hu : X.A.units + 65 < cLine) : OpR X (compareOp .In) (r2 c T fun a b st => (inD st a b).map D.bl) := by
  intro pins s σ H x y v u Q I rx ry h
  obtain ⟨z, st, dx, dy, d, w, h1, h2, e0, q⟩ := h
  obtain ⟨b, e, e2⟩ := Option.map_eq_some_iff.mp (show (inD st dx dy).map D.bl = some d from e0)
  subst e2
  clear e0
  unfold inD at e
  split at e
  · cases e; cases h1; cases h2
    exact op_in_sign pins s σ H _ _ v u Q I rx ry ⟨_, _, rfl, rfl, by simpa using q z H _ (Le.refl z) w (.bl _)⟩
  · split at e
    · rename_i hs
      cases e
      rw [Bool.and_eq_true] at hs
      obtain ⟨bs, r1⟩ := Dp.reads I (py dx) x v (py_dp hK w 60 _ _ hs.1 h1) rx
      cases h2 with
      | tup s1 rs =>
        have d2 : Dp X.K H _ (PyData.tuple (pys _)) := .tup (by rw [hK]; exact w.tup s1) (pys_dp hK w 59 _ _ hs.2 rs)
        obtain ⟨as, r2⟩ := Dp.reads I _ _ u d2 ry
        obtain ⟨k1, k2⟩ := pys_shp 59 _ hs.2
        refine SeqAt.in_tuple_reads r2 r1 k1 (SeqAt.canLay_of_shaped (shaped_of hs.1 (by decide))) (room_in_shaped (shaped_of hs.1 (by decide)) hu) ?_
        rw [any_eqv hs.1 _ hs.2]
        exact fin_blD I w q
    · cases e
  · split at e
    · rename_i hs
      cases e
      rw [Bool.and_eq_true] at hs
      obtain ⟨bs, r1⟩ := Dp.reads I (py dx) x v (py_dp hK w 60 _ _ hs.1 h1) rx
      cases h2 with
      | lst s1 rs =>
        have d2 : Dp X.K H _ (PyData.list (pys _)) := .lst (.inl (.inl (w.sub _ _ s1))) (pys_dp hK w 59 _ _ hs.2 rs)
        obtain ⟨as, r2⟩ := Dp.reads I _ _ u d2 ry
        obtain ⟨k1, k2⟩ := pys_shp 59 _ hs.2
        refine SeqAt.in_list_reads r2 r1 k1 (SeqAt.canLay_of_shaped (shaped_of hs.1 (by decide))) (room_in_shaped (shaped_of hs.1 (by decide)) hu) ?_
        rw [any_eqv hs.1 _ hs.2]
        exact fin_blD I w q
    · cases e
  · cases e
theorem o_notin (hK : X.K = c.K) (hu : X.A.units + 65 < cLine) : OpR X (compareOp .NotIn) (r2 c T fun a b st => (inD st a b).map fun k => D.bl (!k)) := by
  intro pins s σ H x y v u Q I rx ry h
  obtain ⟨z, st, dx, dy, d, w, h1, h2, e0, q⟩ := h
  obtain ⟨b, e, e2⟩ := Option.map_eq_some_iff.mp (show (inD st dx dy).map (fun k => D.bl (!k)) = some d from e0)
  subst e2
  clear e0
  unfold inD at e
  split at e
  · cases e; cases h1; cases h2
    exact op_notIn_sign pins s σ H _ _ v u Q I rx ry ⟨_, _, rfl, rfl, by simpa using q z H _ (Le.refl z) w (.bl _)⟩
  · split at e
    · rename_i hs
      cases e
      rw [Bool.and_eq_true] at hs
      obtain ⟨bs, r1⟩ := Dp.reads I (py dx) x v (py_dp hK w 60 _ _ hs.1 h1) rx
      cases h2 with
      | tup s1 rs =>
        have d2 : Dp X.K H _ (PyData.tuple (pys _)) := .tup (by rw [hK]; exact w.tup s1) (pys_dp hK w 59 _ _ hs.2 rs)
        obtain ⟨as, r2⟩ := Dp.reads I _ _ u d2 ry
        obtain ⟨k1, k2⟩ := pys_shp 59 _ hs.2
        refine SeqAt.notIn_tuple_reads r2 r1 k1 (SeqAt.canLay_of_shaped (shaped_of hs.1 (by decide))) (room_in_shaped (shaped_of hs.1 (by decide)) hu) ?_
        rw [any_eqv hs.1 _ hs.2]
        exact fin_blD I w q
    · cases e
  · split at e
    · rename_i hs
      cases e
      rw [Bool.and_eq_true] at hs
      obtain ⟨bs, r1⟩ := Dp.reads I (py dx) x v (py_dp hK w 60 _ _ hs.1 h1) rx
      cases h2 with
      | lst s1 rs =>
        have d2 : Dp X.K H _ (PyData.list (pys _)) := .lst (.inl (.inl (w.sub _ _ s1))) (pys_dp hK w 59 _ _ hs.2 rs)
        obtain ⟨as, r2⟩ := Dp.reads I _ _ u d2 ry
        obtain ⟨k1, k2⟩ := pys_shp 59 _ hs.2
        refine SeqAt.notIn_list_reads r2 r1 k1 (SeqAt.canLay_of_shaped (shaped_of hs.1 (by decide))) (room_in_shaped (shaped_of hs.1 (by decide)) hu) ?_
        rw [any_eqv hs.1 _ hs.2]
        exact fin_blD I w q
    · cases e
  · cases e
/-! ### items, slices -/
theorem atD_atI {z : Zw} {vs : List V} {ds : List D} {k : Int} {d : D} (r : Rps c z vs ds) (e : atD ds k = some d) : ∃ v, atI vs k = some v ∧ Rp c z v d := by
  unfold atD at e
  obtain ⟨j, e1, e2⟩ := Option.bind_eq_some_iff.mp e
  obtain ⟨v, h1, h2⟩ := r.get e2
  refine ⟨v, ?_, h2⟩
  unfold atI
  rw [r.len]
  exact Option.bind_eq_some_iff.mpr ⟨j, e1, h1⟩
theorem ix_D (hK : X.K = c.K) : IxR X (r2 c T idxD) := by
  obtain ⟨K, mg⟩ := c
  cases hK
  intro a b pins s σ H x y v u Q I rx ry h hab
  obtain ⟨z, st, dx, dy, d, w, h1, h2, e, q⟩ := h
  unfold idxD at e
  split at e
  · cases h2
    cases h1 with
    | tup s1 rs =>
      obtain ⟨v', k1, k2⟩ := atD_atI rs e
      exact ix_seq a b pins s σ H _ _ v u Q I rx ry (.inr (.inl ⟨_, _, _, _, rfl, rfl, w.tup s1, k1, q z H _ (Le.refl z) w k2⟩)) hab
  · cases h2
    cases h1 with
    | lst s1 rs =>
      obtain ⟨v', k1, k2⟩ := atD_atI rs e
      exact ix_seq a b pins s σ H _ _ v u Q I rx ry (.inl ⟨_, _, _, _, rfl, rfl, .inl (.inl (w.sub _ _ s1)), k1, q z H _ (Le.refl z) w k2⟩) hab
  · split at e
    · rename_i hs
      obtain ⟨n, k1, rfl⟩ := Option.map_eq_some_iff.mp e
      cases h2; cases h1
      refine ix_seq a b pins s σ H _ _ v u Q I rx ry (.inr (.inr ⟨_, _, n, rfl, rfl, by rw [strOf_len]; exact sz_of hs, ?_, q z H _ (Le.refl z) w (.str [n])⟩)) hab
      show atI (List.toArray _).toList _ = some n
      rw [List.toList_toArray]
      exact k1
    · cases e
  · split at e
    · rename_i ds hk
      cases h2
      cases h1 with
      | ref e1 =>
        obtain ⟨_, vs, k1, k2⟩ := w.obj _ _ _ e1 hk
        obtain ⟨v', k3, k4⟩ := atD_atI k2 e
        exact ix_seq a b pins s σ H _ _ v u Q I rx ry (.inl ⟨_, _, _, _, rfl, rfl, .inl (.inl k1), k3, q z H _ (Le.refl z) w k4⟩) hab
    · cases e
  · cases e
end
end Bw
set_option linter.all false
set_option autoImplicit false
set_option maxRecDepth 100000
/-! Expressions by data. -/
namespace Bw
open PySem PySem.Spec PyProof.Rows L2
/-- a frame: what is called by its closure slot, the ghost at its entry -/
structure Fc extends Cc where
  ca : Option Addr
  xa : Option Addr
  z0 : Zw
/-- a name's value: data, or the frame's closure -/
inductive Rv (c : Fc) (z : Zw) : V → D → Prop
  | d {v : V} {d : D} : Rp c.toCc z v d → Rv c z v d
  | clo {a : Addr} : c.ca = some a → Rv c z (.ref a) (.clo 0)
  | exc {a : Addr} : c.xa = some a → Rv c z (.ref a) (.clo 1)
theorem Rv.mono {c : Fc} {z z' : Zw} (h : Le z z') {v : V} {d : D} : Rv c z v d → Rv c z' v d
  | .d r => .d (r.mono h)
  | .clo e => .clo e
  | .exc e => .exc e
/-- the names' values -/
structure Rσ (c : Fc) (z : Zw) (σ : L2.St) (ρ : Env) : Prop where
  len : σ.length = ρ.length
  at_ : ∀ (i : Nat) (d : D), ρ[i]? = some (some d) → ∃ v, σ[i]? = some (some v) ∧ Rv c z v d
  le : Lg c.z0 z
theorem Rσ.mono {c : Fc} {z z' : Zw} {σ : L2.St} {ρ : Env} (r : Rσ c z σ ρ) (h : Le z z') : Rσ c z' σ ρ :=
  ⟨r.len, fun i d e => let ⟨v, a, b⟩ := r.at_ i d e; ⟨v, a, b.mono h⟩, r.le.trans h.lg⟩
theorem Rσ.set {c : Fc} {z : Zw} {σ : L2.St} {ρ : Env} (r : Rσ c z σ ρ) {v : V} {d : D} (h : Rv c z v d) (i : Nat) : Rσ c z (σ.set i (some v)) (ρ.set i (some d)) := by
  refine ⟨by rw [List.length_set, List.length_set]; exact r.len, fun j e he => ?_, r.le⟩
  by_cases hj : i = j
  · subst hj
    by_cases hl : i < ρ.length
    · rw [List.getElem?_set_self hl] at he
      cases he
      exact ⟨v, by rw [List.getElem?_set_self (by rw [r.len]; exact hl)], h⟩
    · rw [List.getElem?_eq_none (by rw [List.length_set]; omega)] at he
      cases he
  · rw [List.getElem?_set_ne hj] at he
    obtain ⟨w, a, b⟩ := r.at_ j e he
    exact ⟨w, by rw [List.getElem?_set_ne hj]; exact a, b⟩
abbrev ME := Env → Store → Res D
abbrev MA := Env → Store → Res (List D)
abbrev MT := Env → Store → Res Bool
abbrev MS := Env → Store → Out
/-- what follows a result -/
def Pst {α β : Type} (R : Zw → β → α → Prop) (c : Fc) (T : List (Addr × Str)) (W : WX) (z : Zw) (σ : L2.St) (r : Res α) (Q : β → Hp → Prop) : Prop := match r with
  | .ok d st' => ∀ z' H' v, Le z z' → Wf c.toCc T z' st' H' → R z' v d → Q v H'
  | .er e st' => ∀ z' H' cls dd, Le z z' → Wf c.toCc T z' st' H' → ErOk c.toCc z' e cls dd → W cls dd σ H'
  | .no => False
section
variable {α β γ δ : Type} {R : Zw → β → α → Prop} {R' : Zw → δ → γ → Prop} {c : Fc} {T : List (Addr × Str)} {W : WX} {z z1 : Zw} {σ : L2.St} {Q Q' : β → Hp → Prop}
theorem Pst.le {r : Res α} (h : Pst R c T W z σ r Q) (l : Le z z1) : Pst R c T W z1 σ r Q := by
  cases r with
  | ok d st' => exact fun z' H' v l' => h z' H' v (l.trans l')
  | er e st' => exact fun z' H' cls dd l' => h z' H' cls dd (l.trans l')
  | no => exact h
theorem Pst.imp {r : Res α} (h : Pst R c T W z σ r Q) (k : ∀ v H, Q v H → Q' v H) : Pst R c T W z σ r Q' := by
  cases r with
  | ok d st' => exact fun z' H' v l' w r => k _ _ (h z' H' v l' w r)
  | er e st' => exact h
  | no => exact h
theorem Pst.bnd {r : Res γ} {f : γ → Store → Res α} (h : Pst R c T W z σ (r.bind f) Q) :
    Pst R' c T W z σ r fun x H1 => ∃ z1 st1 d, Le z z1 ∧ Wf c.toCc T z1 st1 H1 ∧ R' z1 x d ∧ Pst R c T W z1 σ (f d st1) Q := by
  cases r with
  | ok d st' => exact fun z' H' v l w r => ⟨z', st', d, l, w, r, Pst.le h l⟩
  | er e st' => exact h
  | no => exact h
end
def LE (c : Fc) (T : List (Addr × Str)) (W : WX) (m : ME) : TE := fun σ H Q => ∃ z ρ st, Wf c.toCc T z st H ∧ Rσ c z σ ρ ∧ Pst (Rp c.toCc) c T W z σ (m ρ st) Q
def LA (c : Fc) (T : List (Addr × Str)) (W : WX) (m : MA) : TA := fun σ H Q => ∃ z ρ st, Wf c.toCc T z st H ∧ Rσ c z σ ρ ∧ Pst (Rps c.toCc) c T W z σ (m ρ st) Q
abbrev RB : Zw → Bool → Bool → Prop := fun _ b b' => b = b'
def LT (c : Fc) (T : List (Addr × Str)) (W : WX) (m : MT) : TT := fun σ H Q => ∃ z ρ st, Wf c.toCc T z st H ∧ Rσ c z σ ρ ∧ Pst RB c T W z σ (m ρ st) Q

/-! ### what expressions give -/
def ofO {α : Type} (o : Option α) (st : Store) : Res α := match o with
  | some d => .ok d st
  | none => .no
def mVar (i : Nat) : ME := fun ρ st => match ρ[i]? with
  | some (some d) => match d with
    | .clo _ => .no
    | d => .ok d st
  | _ => .no
def mLit (d : D) : ME := fun _ st => .ok d st
def mOp (f : D → D → Store → Option D) (a b : ME) : ME := fun ρ st => (a ρ st).bind fun x st => (b ρ st).bind fun y st => ofO (f x y st) st
def mUn (f : D → Store → Option D) (a : ME) : ME := fun ρ st => (a ρ st).bind fun x st => ofO (f x st) st
def mChain (f g : D → D → Store → Option D) (a b d : ME) : ME := fun ρ st => (a ρ st).bind fun x st => (b ρ st).bind fun y st => match f x y st with
  | some (.bl true) => (d ρ st).bind fun w st => ofO (g y w st) st
  | some (.bl false) => .ok (.bl false) st
  | _ => .no
def mAnd (a b : ME) : ME := fun ρ st => (a ρ st).bind fun x st => match truD st x with
  | some true => b ρ st
  | some false => .ok x st
  | none => .no
def mOr (a b : ME) : ME := fun ρ st => (a ρ st).bind fun x st => match truD st x with
  | some true => .ok x st
  | some false => b ρ st
  | none => .no
def mNot (a : ME) : ME := fun ρ st => (a ρ st).bind fun x st => match truD st x with
  | some k => .ok (.bl (!k)) st
  | none => .no
def mIf (t : MT) (a b : ME) : ME := fun ρ st => (t ρ st).bind fun k st => if k then a ρ st else b ρ st
def tVal (a : ME) : MT := fun ρ st => (a ρ st).bind fun x st => ofO (truD st x) st
def tAnd (a b : MT) : MT := fun ρ st => (a ρ st).bind fun k st => if k then b ρ st else .ok false st
def tOr (a b : MT) : MT := fun ρ st => (a ρ st).bind fun k st => if k then .ok true st else b ρ st
def tNot (a : MT) : MT := fun ρ st => (a ρ st).bind fun k st => .ok (!k) st
/-- a comparison as a test -/
def tCmp (a : ME) : MT := fun ρ st => (a ρ st).bind fun x st => match x with
  | .bl k => .ok k st
  | _ => .no
def aNil : MA := fun _ st => .ok [] st
def aCons (a : ME) (r : MA) : MA := fun ρ st => (a ρ st).bind fun x st => (r ρ st).bind fun xs st => .ok (x :: xs) st
def mTup (a : MA) : ME := fun ρ st => (a ρ st).bind fun xs st => if Sz xs.length then .ok (.tup xs) st else .no
def mLst (a : MA) : ME := fun ρ st => (a ρ st).bind fun xs st => if Sz xs.length then .ok (.lst xs) st else .no
def mNew (a : MA) : ME := fun ρ st => (a ρ st).bind fun xs st => if Sz xs.length then .ok (.ref st.length) (st ++ [.lst xs]) else .no
def mSli (a : ME) (lo hi : Env → Store → Res (Option Int)) : ME := fun ρ st => (a ρ st).bind fun x st => (lo ρ st).bind fun l st => (hi ρ st).bind fun h st => ofO (sliD x l h st) st
def oNone : Env → Store → Res (Option Int) := fun _ st => .ok none st
def oSome (a : ME) : Env → Store → Res (Option Int) := fun ρ st => (a ρ st).bind fun x st => match x with
  | .int i => .ok (some i) st
  | _ => .no
/-- a built-in function of values -/
def mBlt (f : List D → Store → Option D) (a : MA) : ME := fun ρ st => (a ρ st).bind fun xs st => ofO (f xs st) st
/-- a built-in method -/
def mMth (f : D → List D → Store → Res D) (a : ME) (r : MA) : ME := fun ρ st => (a ρ st).bind fun x st => (r ρ st).bind fun xs st => f x xs st

section
variable {X : Cx} {c : Fc} {T : List (Addr × Str)} {W : WX} {a b d : PySem.Expr} {ma mb md : ME} {pos : Pos}
theorem Pst.ofO {α β : Type} {R : Zw → β → α → Prop} {z : Zw} {σ : L2.St} {o : Option α} {st : Store} {Q : β → Hp → Prop} (h : Pst R c T W z σ (ofO o st) Q) : ∃ d, o = some d ∧ ∀ z' H' v, Le z z' → Wf c.toCc T z' st H' → R z' v d → Q v H' := by
  cases o with
  | none => exact h.elim
  | some d => exact ⟨d, rfl, h⟩
theorem e_var (i : Nat) {x : Str} (hN : X.N[i]? = some x := by rfl) (hv : Vis X.env.scope x := by first | exact Or.inl rfl | exact Or.inr (Or.inl rfl) | exact Or.inr (Or.inr rfl)) (hd : (x == ("__debug__" : Str)) = false := by decide)
    (hcd : (x == ("__classdict__" : Str)) = false := by decide) : PE X (.Name x pos) (LE c T W (mVar i)) := by
  refine imp_PE (pe_var hN hv hd hcd) fun σ H Q ⟨z, ρ, st, w, r, q⟩ => ?_
  unfold mVar at q
  split at q
  · rename_i d he
    obtain ⟨v, h1, h2⟩ := r.at_ i d he
    cases h2 with
    | clo _ => exact q.elim
    | exc _ => exact q.elim
    | d h2 =>
      split at q
      · exact q.elim
      · exact ⟨v, h1, q z H v (Le.refl z) w h2⟩
  · exact q.elim
theorem e_int {i : Int} {j : Nat} : PE X (.Constant (.int i) j pos) (LE c T W (mLit (.int i))) := imp_PE pe_int fun σ H Q ⟨z, ρ, st, w, r, q⟩ => q z H _ (Le.refl z) w (.int i)
theorem e_bl {i : Bool} {j : Nat} : PE X (.Constant (.bool i) j pos) (LE c T W (mLit (.bl i))) := imp_PE pe_bl fun σ H Q ⟨z, ρ, st, w, r, q⟩ => q z H _ (Le.refl z) w (.bl i)
theorem e_non {j : Nat} : PE X (.Constant .none j pos) (LE c T W (mLit .non)) := imp_PE pe_non fun σ H Q ⟨z, ρ, st, w, r, q⟩ => q z H _ (Le.refl z) w .non
theorem e_str (s : List Nat) {x : Str} {j : Nat} (hx : x = strOf s := by first | rfl | decide) : PE X (.Constant (.str x) j pos) (LE c T W (mLit (.str s))) := imp_PE pe_str fun σ H Q ⟨z, ρ, st, w, r, q⟩ => by
  rw [hx]
  exact q z H _ (Le.refl z) w (.str s)
/-- a constant of the module, a def, a class -/
theorem e_glob {x : Str} {v : V} {u : Value} (dd : D) (hr : ∀ z, Rp c.toCc z v dd) (hm : X.mg x = some u) (r : RelV v u) (hg : Gl X x := by rfl) (hd : (x == ("__debug__" : Str)) = false := by decide) : PE X (.Name x pos) (LE c T W (mLit dd)) :=
  imp_PE (pe_glob hg hm r hd) fun σ H Q ⟨z, ρ, st, w, _, q⟩ => q z H _ (Le.refl z) w (hr z)
theorem e_op {op : Operator} {f : D → D → Store → Option D} (ho : OpR X (binaryOp op) (r2 c.toCc T f)) (ha : PE X a (LE c T W ma)) (hb : PE X b (LE c T W mb)) : PE X (.BinOp a op b pos) (LE c T W (mOp f ma mb)) :=
  imp_PE (pe_op ho ha hb) fun σ H Q ⟨z, ρ, st, w, r, q⟩ => ⟨z, ρ, st, w, r, (Pst.bnd q).imp fun x H1 ⟨z1, st1, dx, l1, w1, rx, q1⟩ => ⟨z1, ρ, st1, w1, r.mono l1, (Pst.bnd q1).imp fun y H2 ⟨z2, st2, dy, l2, w2, ry, q2⟩ =>
    let ⟨dd, e, q3⟩ := Pst.ofO q2
    ⟨z2, st2, dx, dy, dd, w2, rx.mono l2, ry, e, q3⟩⟩⟩
theorem e_cmp {op : CmpOp} {f : D → D → Store → Option D} (ho : OpR X (compareOp op) (r2 c.toCc T f)) (ha : PE X a (LE c T W ma)) (hb : PE X b (LE c T W mb)) (hm : behindInMarks op b = false := by first | exact nomark _ | rfl) : PE X (.Compare a [op] [b] pos) (LE c T W (mOp f ma mb)) :=
  imp_PE (pe_cmpR ho ha hb hm) fun σ H Q ⟨z, ρ, st, w, r, q⟩ => ⟨z, ρ, st, w, r, (Pst.bnd q).imp fun x H1 ⟨z1, st1, dx, l1, w1, rx, q1⟩ => ⟨z1, ρ, st1, w1, r.mono l1, (Pst.bnd q1).imp fun y H2 ⟨z2, st2, dy, l2, w2, ry, q2⟩ =>
    let ⟨dd, e, q3⟩ := Pst.ofO q2
    ⟨z2, st2, dx, dy, dd, w2, rx.mono l2, ry, e, q3⟩⟩⟩
theorem t_cmp {op : CmpOp} {f : D → D → Store → Option D} (ho : OpR X (compareOp op) (r2 c.toCc T f)) (ha : PE X a (LE c T W ma)) (hb : PE X b (LE c T W mb)) (hm : behindInMarks op b = false := by first | exact nomark _ | rfl) : PT X (.Compare a [op] [b] pos) (LT c T W (tCmp (mOp f ma mb))) :=
  imp_PT (pt_cmpR ho ha hb hm) fun σ H Q ⟨z, ρ, st, w, r, q⟩ => by
    have q' := q
    simp only [tCmp, mOp, bind_assoc] at q'
    refine ⟨z, ρ, st, w, r, (Pst.bnd q').imp fun x H1 ⟨z1, st1, dx, l1, w1, rx, q1⟩ => ⟨z1, ρ, st1, w1, r.mono l1, (Pst.bnd q1).imp fun y H2 ⟨z2, st2, dy, l2, w2, ry, q2⟩ => ?_⟩⟩
    cases hf : f dx dy st2 with
    | none => rw [hf] at q2; exact q2.elim
    | some dd =>
      rw [hf] at q2
      refine ⟨z2, st2, dx, dy, dd, w2, rx.mono l2, ry, hf, fun z3 H3 v l3 w3 rv => ?_⟩
      simp only [Bw.ofO, bind_ok] at q2
      split at q2
      · rename_i k
        cases rv
        exact ⟨k, rfl, q2 z3 H3 k l3 w3 rfl⟩
      · exact q2.elim
end
end Bw
set_option linter.all false
set_option autoImplicit false
set_option maxRecDepth 100000
/-! More expressions by data: chains, tests, displays, slices, built-ins. -/
namespace Bw
open PySem PySem.Spec PyProof.Rows L2
section
variable {X : Cx} {c : Fc} {T : List (Addr × Str)} {W : WX} {a b d : PySem.Expr} {ma mb md : ME} {pos : Pos} {rest : List PySem.Expr}
abbrev PD (X : Cx) (c : Fc) (T : List (Addr × Str)) (W : WX) (e : PySem.Expr) (m : ME) : Prop := PE X e (LE c T W m)
theorem chain_ok {f g : D → D → Store → Option D} {σ : L2.St} {H : Hp} {Q : VK} (q : LE c T W (mChain f g ma mb md) σ H Q) : tChain (r2 c.toCc T f) (r2 c.toCc T g) (LE c T W ma) (LE c T W mb) (LE c T W md) σ H Q := by
  obtain ⟨z, ρ, st, w, r, q⟩ := q
  refine ⟨z, ρ, st, w, r, (Pst.bnd q).imp fun x H1 ⟨z1, st1, dx, l1, w1, rx, q1⟩ => ⟨z1, ρ, st1, w1, r.mono l1, (Pst.bnd q1).imp fun y H2 ⟨z2, st2, dy, l2, w2, ry, q2⟩ => ?_⟩⟩
  try dsimp only at q2
  split at q2
  · rename_i hf
    refine ⟨z2, st2, dx, dy, _, w2, rx.mono l2, ry, hf, fun z3 H3 v l3 w3 rv => ?_⟩
    cases rv
    refine ⟨true, rfl, iteT ?_⟩
    exact ⟨z3, ρ, st2, w3, ((r.mono l1).mono l2).mono l3, (Pst.bnd (q2.le l3)).imp fun u H4 ⟨z4, st4, du, l4, w4, ru, q4⟩ =>
      let ⟨dd, e, q5⟩ := Pst.ofO q4
      ⟨z4, st4, dy, du, dd, w4, (ry.mono l3).mono l4, ru, e, q5⟩⟩
  · rename_i hf
    refine ⟨z2, st2, dx, dy, _, w2, rx.mono l2, ry, hf, fun z3 H3 v l3 w3 rv => ?_⟩
    cases rv
    exact ⟨false, rfl, iteF (q2 z3 H3 _ l3 w3 (.bl false))⟩
  · exact q2.elim
theorem e_chain {op op' : CmpOp} {f g : D → D → Store → Option D} (ho : OpR X (compareOp op) (r2 c.toCc T f)) (ho' : OpR X (compareOp op') (r2 c.toCc T g)) (ha : PD X c T W a ma) (hb : PD X c T W b mb) (hd : PD X c T W d md)
    (hm : lastMarks [op, op'] [b, d] = false := by with_unfolding_all rfl) : PD X c T W (.Compare a [op, op'] [b, d] pos) (mChain f g ma mb md) :=
  imp_PE (pe_chain ho ho' ha hb hd hm) fun σ H Q q => chain_ok q
theorem t_chain {op op' : CmpOp} {f g : D → D → Store → Option D} (ho : OpR X (compareOp op) (r2 c.toCc T f)) (ho' : OpR X (compareOp op') (r2 c.toCc T g)) (ha : PD X c T W a ma) (hb : PD X c T W b mb) (hd : PD X c T W d md)
    (hm : lastMarks [op, op'] [b, d] = false := by with_unfolding_all rfl) : PT X (.Compare a [op, op'] [b, d] pos) (LT c T W (tCmp (mChain f g ma mb md))) :=
  imp_PT (pt_chain ho ho' ha hb hd hm) fun σ H Q ⟨z, ρ, st, w, r, q⟩ => chain_ok ⟨z, ρ, st, w, r, (Pst.bnd q).imp fun x H1 ⟨z1, st1, dx, l1, w1, rx, q1⟩ => by
    try dsimp only at q1
    split at q1
    · rename_i k
      cases rx
      exact ⟨k, rfl, q1 z1 H1 k (Le.refl z1) w1 rfl⟩
    · exact q1.elim⟩
/-! ### truth -/
theorem tru_D (hK : X.K = c.K) {z : Zw} {st : Store} {H : Hp} (w : Wf c.toCc T z st H) {v : V} {x : D} {k : Bool} (r : Rp c.toCc z v x) (e : truD st x = some k) : TruV X.K v H k := by
  unfold truD at e
  split at e
  · cases e; cases r; rfl
  · cases e; cases r; rfl
  · cases e; cases r; rfl
  · split at e
    · rename_i hs
      cases e; cases r
      refine ⟨by rw [strOf_len]; exact sz_of hs, ?_⟩
      rw [strOf_len]
      rename_i s
      cases s with
      | nil => rfl
      | cons _ _ => simp <;> omega
    · cases e
  · cases e
    cases r with
    | tup s1 rs =>
      refine .inr (.inl ⟨_, by rw [hK]; exact w.tup s1, ?_⟩)
      cases rs <;> rfl
  · cases e
    cases r with
    | lst s1 rs =>
      refine .inl ⟨_, .inl (.inl (w.sub _ _ s1)), ?_⟩
      cases rs <;> rfl
  · split at e
    · rename_i ds hk
      cases e
      cases r with
      | ref e1 =>
        obtain ⟨_, vs, h1, h2⟩ := w.obj _ _ _ e1 hk
        refine .inl ⟨vs, .inl (.inl h1), ?_⟩
        cases h2 <;> rfl
    · cases e
  · cases e
theorem e_and (hK : X.K = c.K) (ha : PD X c T W a ma) (hb : PD X c T W (.BoolOp .And (b :: rest) pos) mb) : PD X c T W (.BoolOp .And (a :: b :: rest) pos) (mAnd ma mb) :=
  imp_PE (pe_andT ha hb) fun σ H Q ⟨z, ρ, st, w, r, q⟩ => ⟨z, ρ, st, w, r, (Pst.bnd q).imp fun x H1 ⟨z1, st1, dx, l1, w1, rx, q1⟩ => by
    try dsimp only at q1
    split at q1
    · rename_i hk
      exact ⟨true, tru_D hK w1 rx hk, iteT ⟨z1, ρ, st1, w1, r.mono l1, q1⟩⟩
    · rename_i hk
      exact ⟨false, tru_D hK w1 rx hk, iteF (q1 z1 H1 x (Le.refl z1) w1 rx)⟩
    · exact q1.elim⟩
theorem e_or (hK : X.K = c.K) (ha : PD X c T W a ma) (hb : PD X c T W (.BoolOp .Or (b :: rest) pos) mb) : PD X c T W (.BoolOp .Or (a :: b :: rest) pos) (mOr ma mb) :=
  imp_PE (pe_orT ha hb) fun σ H Q ⟨z, ρ, st, w, r, q⟩ => ⟨z, ρ, st, w, r, (Pst.bnd q).imp fun x H1 ⟨z1, st1, dx, l1, w1, rx, q1⟩ => by
    try dsimp only at q1
    split at q1
    · rename_i hk
      exact ⟨true, tru_D hK w1 rx hk, iteT (q1 z1 H1 x (Le.refl z1) w1 rx)⟩
    · rename_i hk
      exact ⟨false, tru_D hK w1 rx hk, iteF ⟨z1, ρ, st1, w1, r.mono l1, q1⟩⟩
    · exact q1.elim⟩
theorem e_one {op : BoolOp} (ha : PD X c T W a ma) : PD X c T W (.BoolOp op [a] pos) ma := pe_one ha
theorem e_not (hK : X.K = c.K) (ha : PD X c T W a ma) : PD X c T W (.UnaryOp .Not a pos) (mNot ma) :=
  imp_PE (pe_notT ha) fun σ H Q ⟨z, ρ, st, w, r, q⟩ => ⟨z, ρ, st, w, r, (Pst.bnd q).imp fun x H1 ⟨z1, st1, dx, l1, w1, rx, q1⟩ => by
    try dsimp only at q1
    split at q1
    · rename_i k hk
      exact ⟨k, tru_D hK w1 rx hk, q1 z1 H1 _ (Le.refl z1) w1 (.bl _)⟩
    · exact q1.elim⟩
theorem t_val (hK : X.K = c.K) (ha : PD X c T W a ma) (he : ∀ whole, isTrue a X.env whole = (do let v ← whole; standAt a.pos; holding [v] (truthy v)) := by intro _; rfl) : PT X a (LT c T W (tVal ma)) :=
  imp_PT (pt_truth ha he) fun σ H Q ⟨z, ρ, st, w, r, q⟩ => ⟨z, ρ, st, w, r, (Pst.bnd q).imp fun x H1 ⟨z1, st1, dx, l1, w1, rx, q1⟩ =>
    let ⟨k, e, q2⟩ := Pst.ofO q1
    ⟨k, tru_D hK w1 rx e, q2 z1 H1 k (Le.refl z1) w1 rfl⟩⟩
theorem t_and {ta tb : MT} (ha : PT X a (LT c T W ta)) (hb : PW X (.BoolOp .And (b :: rest) pos) (LT c T W tb)) : PW X (.BoolOp .And (a :: b :: rest) pos) (LT c T W (tAnd ta tb)) :=
  imp_PW (pw_and ha hb) fun σ H Q ⟨z, ρ, st, w, r, q⟩ => ⟨z, ρ, st, w, r, (Pst.bnd q).imp fun x H1 ⟨z1, st1, k, l1, w1, rx, q1⟩ => by
    cases (show x = k from rx)
    cases x with
    | true => exact iteT ⟨z1, ρ, st1, w1, r.mono l1, q1⟩
    | false => exact iteF (q1 z1 H1 false (Le.refl z1) w1 rfl)⟩
theorem t_or {ta tb : MT} (ha : PT X a (LT c T W ta)) (hb : PW X (.BoolOp .Or (b :: rest) pos) (LT c T W tb)) : PW X (.BoolOp .Or (a :: b :: rest) pos) (LT c T W (tOr ta tb)) :=
  imp_PW (pw_or ha hb) fun σ H Q ⟨z, ρ, st, w, r, q⟩ => ⟨z, ρ, st, w, r, (Pst.bnd q).imp fun x H1 ⟨z1, st1, k, l1, w1, rx, q1⟩ => by
    cases (show x = k from rx)
    cases x with
    | true => exact iteT (q1 z1 H1 true (Le.refl z1) w1 rfl)
    | false => exact iteF ⟨z1, ρ, st1, w1, r.mono l1, q1⟩⟩
theorem t_and1 {ta : MT} (ha : PT X a (LT c T W ta)) : PW X (.BoolOp .And [a] pos) (LT c T W ta) := pw_and1 ha
theorem t_or1 {ta : MT} (ha : PT X a (LT c T W ta)) : PW X (.BoolOp .Or [a] pos) (LT c T W ta) := pw_or1 ha
theorem t_not {ta : MT} (ha : PT X a (LT c T W ta)) : PT X (.UnaryOp .Not a pos) (LT c T W (tNot ta)) :=
  imp_PT (pt_not ha) fun σ H Q ⟨z, ρ, st, w, r, q⟩ => ⟨z, ρ, st, w, r, (Pst.bnd q).imp fun x H1 ⟨z1, st1, k, l1, w1, rx, q1⟩ => by
    cases (show x = k from rx)
    exact q1 z1 H1 _ (Le.refl z1) w1 rfl⟩
theorem e_if {t : PySem.Expr} {mt : MT} (ht : PT X t (LT c T W mt)) (ha : PD X c T W a ma) (hb : PD X c T W b mb) : PD X c T W (.IfExp t a b pos) (mIf mt ma mb) :=
  imp_PE (pe_ifExp ht ha hb) fun σ H Q ⟨z, ρ, st, w, r, q⟩ => ⟨z, ρ, st, w, r, (Pst.bnd q).imp fun x H1 ⟨z1, st1, k, l1, w1, rx, q1⟩ => by
    cases (show x = k from rx)
    cases x with
    | true => exact iteT ⟨z1, ρ, st1, w1, r.mono l1, q1⟩
    | false => exact iteF ⟨z1, ρ, st1, w1, r.mono l1, q1⟩⟩
theorem e_neg (ha : PD X c T W a ma) : PD X c T W (.UnaryOp .USub a pos) (mUn (fun x _ => negD x) ma) :=
  imp_PE (pe_un un_neg ha) fun σ H Q ⟨z, ρ, st, w, r, q⟩ => ⟨z, ρ, st, w, r, (Pst.bnd q).imp fun x H1 ⟨z1, st1, dx, l1, w1, rx, q1⟩ => by
    obtain ⟨dd, e, q2⟩ := Pst.ofO q1
    have e : negD dx = some dd := e
    unfold negD at e
    split at e
    · cases e; cases rx
      exact ⟨_, rfl, q2 z1 H1 _ (Le.refl z1) w1 (.int _)⟩
    · cases e⟩
/-! ### arguments, displays -/
theorem a_nil : PA X [] (LA c T W aNil) := imp_PA pa_nil fun σ H Q ⟨z, ρ, st, w, r, q⟩ => q z H [] (Le.refl z) w .nil
theorem a_cons {e : PySem.Expr} {es : List PySem.Expr} {mr : MA} (he : PD X c T W e ma) (hr : PA X es (LA c T W mr)) (hs : starEach (e :: es) X.env = (false, eval e X.env) :: starEach es X.env := by rfl) : PA X (e :: es) (LA c T W (aCons ma mr)) :=
  imp_PA (pa_cons he hr hs) fun σ H Q ⟨z, ρ, st, w, r, q⟩ => ⟨z, ρ, st, w, r, (Pst.bnd q).imp fun x H1 ⟨z1, st1, dx, l1, w1, rx, q1⟩ => ⟨z1, ρ, st1, w1, r.mono l1, (Pst.bnd q1).imp fun xs H2 ⟨z2, st2, ds, l2, w2, rs, q2⟩ =>
    q2 z2 H2 _ (Le.refl z2) w2 (.cons (rx.mono l2) rs)⟩⟩
theorem e_tup {es : List PySem.Expr} {k : Nat} {mr : MA} (h : PA X es (LA c T W mr)) : PD X c T W (.Tuple es k pos) (mTup mr) :=
  imp_PE (pe_tup h) fun σ H Q ⟨z, ρ, st, w, r, q⟩ => ⟨z, ρ, st, w, r, (Pst.bnd q).imp fun xs H1 ⟨z1, st1, ds, l1, w1, rs, q1⟩ => by
    try dsimp only at q1
    split at q1
    · rename_i hs
      refine ⟨by rw [rs.len]; exact sz_of hs, fun p hp => ?_⟩
      obtain ⟨l, w', r'⟩ := w1.newTup hp rs
      exact q1 _ _ _ l w' r'
    · exact q1.elim⟩
theorem e_lst {es : List PySem.Expr} {mr : MA} (h : PA X es (LA c T W mr)) : PD X c T W (.List es pos) (mLst mr) :=
  imp_PE (pe_lst h) fun σ H Q ⟨z, ρ, st, w, r, q⟩ => ⟨z, ρ, st, w, r, (Pst.bnd q).imp fun xs H1 ⟨z1, st1, ds, l1, w1, rs, q1⟩ => by
    try dsimp only at q1
    split at q1
    · rename_i hs
      refine ⟨by rw [rs.len]; exact sz_of hs, fun p hp => ?_⟩
      obtain ⟨l, w', r'⟩ := w1.newLst hp rs
      exact q1 _ _ _ l w' r'
    · exact q1.elim⟩
theorem e_new {es : List PySem.Expr} {mr : MA} (h : PA X es (LA c T W mr)) : PD X c T W (.List es pos) (mNew mr) :=
  imp_PE (pe_lst h) fun σ H Q ⟨z, ρ, st, w, r, q⟩ => ⟨z, ρ, st, w, r, (Pst.bnd q).imp fun xs H1 ⟨z1, st1, ds, l1, w1, rs, q1⟩ => by
    try dsimp only at q1
    split at q1
    · rename_i hs
      refine ⟨by rw [rs.len]; exact sz_of hs, fun p hp => ?_⟩
      obtain ⟨l, w', r'⟩ := w1.push hp rs
      exact q1 _ _ _ l w' r'
    · exact q1.elim⟩
/-! ### items, slices -/
theorem e_idx (hK : X.K = c.K) (ha : PD X c T W a ma) (hb : PD X c T W b mb) (hs : PlainIx b := by exact fun _ _ => rfl) : PD X c T W (.Subscript a b pos) (mOp idxD ma mb) :=
  imp_PE (pe_ix (ix_D hK) ha hb hs) fun σ H Q ⟨z, ρ, st, w, r, q⟩ => ⟨z, ρ, st, w, r, (Pst.bnd q).imp fun x H1 ⟨z1, st1, dx, l1, w1, rx, q1⟩ => ⟨z1, ρ, st1, w1, r.mono l1, (Pst.bnd q1).imp fun y H2 ⟨z2, st2, dy, l2, w2, ry, q2⟩ =>
    let ⟨dd, e, q3⟩ := Pst.ofO q2
    ⟨z2, st2, dx, dy, dd, w2, rx.mono l2, ry, e, q3⟩⟩⟩
theorem clip_sIx (n d : Nat) (o : Option Int) : clip n d o = HT.sIx n d o := by
  cases o <;> rfl
theorem Rps.cut {c : Cc} {z : Zw} {vs : List V} {ds : List D} (r : Rps c z vs ds) (lo hi : Option Int) : Rps c z (cutV vs lo hi) (cut ds lo hi) := by
  unfold cutV Bw.cut
  rw [r.len, clip_sIx, clip_sIx]
  exact (r.drop _).take _
theorem Rps.ints {c : Cc} {z : Zw} : ∀ ns : List Int, Rps c z (ns.map V.int) (ns.map D.int)
  | [] => .nil
  | n :: ns => .cons (.int n) (Rps.ints ns)
theorem cut_whole {α : Type} {l : List α} {lo hi : Option Int} (h : HT.sIx l.length 0 lo = 0 ∧ HT.sIx l.length l.length hi = l.length) : cut l lo hi = l := by
  unfold cut
  rw [clip_sIx, clip_sIx, h.1, h.2]
  simp
def rSl (c : Cc) (T : List (Addr × Str)) : V → Option Int → Option Int → Hp → VK → Prop := fun x lo hi H Q => ∃ z st dx d, Wf c T z st H ∧ Rp c z x dx ∧ sliD dx lo hi st = some d ∧ ∀ z' H' v, Le z z' → Wf c T z' st H' → Rp c z' v d → Q v H'
theorem sl_D {c : Cc} (hK : X.K = c.K) : SlR X (rSl c T) := by
  obtain ⟨K, mg⟩ := c
  cases hK
  intro pins s σ H x v vl vu lo hi sl Q I rx hs pl pu h
  obtain ⟨z, st, dx, d, w, h1, e, q⟩ := h
  unfold sliD at e
  split at e
  · cases e
    cases h1 with
    | tup s1 rs =>
      refine sl_tupA pins s σ H _ v vl vu lo hi sl Q I rx hs pl pu ⟨_, _, rfl, w.tup s1, fun hw => ?_, fun hw p hp => ?_⟩
      · refine q z H _ (Le.refl z) w ?_
        rw [rs.len] at hw
        rw [cut_whole hw]
        exact .tup s1 rs
      · obtain ⟨l, w', r'⟩ := w.newTup hp (rs.cut lo hi)
        exact q _ _ _ l w' r'
  · cases e
    cases h1 with
    | lst s1 rs =>
      refine sl_list pins s σ H _ v vl vu lo hi sl Q I rx hs pl pu ⟨_, _, rfl, .inl (.inl (w.sub _ _ s1)), fun p hp => ?_⟩
      obtain ⟨l, w', r'⟩ := w.newLst hp (rs.cut lo hi)
      exact q _ _ _ l w' r'
  · split at e
    · rename_i hz
      cases e; cases h1
      rename_i s1
      refine sl_str pins s σ H _ v vl vu lo hi sl Q I rx hs pl pu ⟨_, rfl, by rw [strOf_len]; exact sz_of hz, ?_⟩
      have : cutS (strOf s1) lo hi = strOf (cut s1 lo hi) := by
        unfold cutS cut
        rw [strOf_len, clip_sIx, clip_sIx]
      rw [this]
      exact q z H _ (Le.refl z) w (.str _)
    · cases e
  · cases e
    cases h1 with
    | scr s1 =>
      refine sl_list pins s σ H _ v vl vu lo hi sl Q I rx hs pl pu ⟨_, _, rfl, w.seq s1, fun p hp => ?_⟩
      obtain ⟨l, w', r'⟩ := w.newLst hp ((Rps.ints _).cut lo hi)
      exact q _ _ _ l w' r'
  · split at e
    · rename_i ds hk
      cases e
      cases h1 with
      | ref e1 =>
        obtain ⟨_, vs, k1, k2⟩ := w.obj _ _ _ e1 hk
        refine sl_list pins s σ H _ v vl vu lo hi sl Q I rx hs pl pu ⟨_, _, rfl, .inl (.inl k1), fun p hp => ?_⟩
        obtain ⟨l, w', r'⟩ := w.newLst hp (k2.cut lo hi)
        exact q _ _ _ l w' r'
    · cases e
  · cases e
def LO (c : Fc) (T : List (Addr × Str)) (W : WX) (m : Env → Store → Res (Option Int)) : L2.St → Hp → (Option Int → Hp → Prop) → Prop := fun σ H Q => ∃ z ρ st, Wf c.toCc T z st H ∧ Rσ c z σ ρ ∧ Pst (fun _ (x y : Option Int) => x = y) c T W z σ (m ρ st) Q
theorem imp_PO {X : Cx} {e : Option PySem.Expr} {t t' : L2.St → Hp → (Option Int → Hp → Prop) → Prop} (h : PO X e t) (k : ∀ σ H Q, t' σ H Q → t σ H Q) : PO X e t' :=
  ⟨fun pins s σ H Q I q => h.run pins s σ H Q I (k σ H Q q)⟩
theorem p_none : PO X none (LO c T W oNone) := imp_PO po_none fun σ H Q ⟨z, ρ, st, w, r, q⟩ => q z H none (Le.refl z) w rfl
theorem p_some (ha : PD X c T W a ma) : PO X (some a) (LO c T W (oSome ma)) :=
  imp_PO (po_some ha) fun σ H Q ⟨z, ρ, st, w, r, q⟩ => ⟨z, ρ, st, w, r, (Pst.bnd q).imp fun x H1 ⟨z1, st1, dx, l1, w1, rx, q1⟩ => by
    try dsimp only at q1
    split at q1
    · cases rx
      exact ⟨_, rfl, q1 z1 H1 _ (Le.refl z1) w1 rfl⟩
    · exact q1.elim⟩
theorem e_sli (hK : X.K = c.K) {lo hi : Option PySem.Expr} {p2 : Pos} {ml mh : Env → Store → Res (Option Int)} (ha : PD X c T W a ma) (hl : PO X lo (LO c T W ml)) (hh : PO X hi (LO c T W mh)) : PD X c T W (.Subscript a (.Slice lo hi none p2) pos) (mSli ma ml mh) :=
  imp_PE (pe_slice (sl_D hK) ha hl hh) fun σ H Q ⟨z, ρ, st, w, r, q⟩ => ⟨z, ρ, st, w, r, (Pst.bnd q).imp fun x H1 ⟨z1, st1, dx, l1, w1, rx, q1⟩ => ⟨z1, ρ, st1, w1, r.mono l1, (Pst.bnd q1).imp fun y H2 ⟨z2, st2, dy, l2, w2, ry, q2⟩ =>
    ⟨z2, ρ, st2, w2, (r.mono l1).mono l2, (Pst.bnd q2).imp fun u H3 ⟨z3, st3, du, l3, w3, ru, q3⟩ => by
      obtain ⟨dd, e, q4⟩ := Pst.ofO q3
      cases (show y = dy from ry)
      cases (show u = du from ru)
      exact ⟨z3, st3, dx, dd, w3, (rx.mono l2).mono l3, e, q4⟩⟩⟩⟩
/-! ### built-in functions and methods -/
theorem e_blt {x : Str} {p : Pos} {e : PySem.Expr} {es : List PySem.Expr} {mr : MA} {id : String} {f : List D → Store → Option D} (hc : CallR X (.builtin id) (rN c.toCc T f)) (hm : X.mg x = none) (hv : bootBuiltins x = some (.builtin id)) (ha : PA X (e :: es) (LA c T W mr)) (hg : Gl X x := by rfl)
    (hn : x ≠ "__name__" := by decide) (hdb : (x == ("__debug__" : Str)) = false := by decide) (he : starEach (e :: es) X.env = (false, eval e X.env) :: starEach es X.env := by rfl) (hpl : (backTo pos (starEach es X.env)).any (·.1) = false := by rfl) :
    PD X c T W (.Call (.Name x p) (e :: es) [] pos) (mBlt f mr) :=
  imp_PE (pe_callB hc hg hm hv ha hn hdb he hpl) fun σ H Q ⟨z, ρ, st, w, r, q⟩ => ⟨z, ρ, st, w, r, (Pst.bnd q).imp fun xs H1 ⟨z1, st1, ds, l1, w1, rs, q1⟩ =>
    let ⟨dd, e, q2⟩ := Pst.ofO q1
    ⟨z1, st1, ds, dd, w1, rs, e, q2⟩⟩
theorem e_bty {x : Str} {p : Pos} {e : PySem.Expr} {es : List PySem.Expr} {mr : MA} {id : String} {f : List D → Store → Option D} (hc : CallR X (.type id) (rN c.toCc T f)) (hm : X.mg x = none) (hv : bootBuiltins x = some (.type id)) (ha : PA X (e :: es) (LA c T W mr)) (hg : Gl X x := by rfl)
    (hn : x ≠ "__name__" := by decide) (hdb : (x == ("__debug__" : Str)) = false := by decide) (he : starEach (e :: es) X.env = (false, eval e X.env) :: starEach es X.env := by rfl) (hpl : (backTo pos (starEach es X.env)).any (·.1) = false := by rfl) :
    PD X c T W (.Call (.Name x p) (e :: es) [] pos) (mBlt f mr) :=
  imp_PE (pe_callTy hc hg hm hv ha hn hdb he hpl) fun σ H Q ⟨z, ρ, st, w, r, q⟩ => ⟨z, ρ, st, w, r, (Pst.bnd q).imp fun xs H1 ⟨z1, st1, ds, l1, w1, rs, q1⟩ =>
    let ⟨dd, e, q2⟩ := Pst.ofO q1
    ⟨z1, st1, ds, dd, w1, rs, e, q2⟩⟩
end
end Bw
set_option linter.all false
set_option autoImplicit false
set_option maxRecDepth 100000
/-! Statements by data. -/
namespace Bw
open PySem PySem.Spec PyProof.Rows L2
/-- what follows a statement's outcome -/
def PstS (c : Fc) (T : List (Addr × Str)) (W : WX) (z : Zw) (o : Out) (D : Ends) : Prop := match o with
  | .nx ρ st => ∀ z' H' σ', Le z z' → Wf c.toCc T z' st H' → Rσ c z' σ' ρ → D.nx σ' H'
  | .rt d st => ∀ z' H' v, Le z z' → Wf c.toCc T z' st H' → Rp c.toCc z' v d → D.rt v H'
  | .bk ρ st => ∀ z' H' σ', Le z z' → Wf c.toCc T z' st H' → Rσ c z' σ' ρ → D.bk σ' H'
  | .ct ρ st => ∀ z' H' σ', Le z z' → Wf c.toCc T z' st H' → Rσ c z' σ' ρ → D.ct σ' H'
  | .er e ρ st => ∀ z' H' σ' cls dd, Le z z' → Wf c.toCc T z' st H' → Rσ c z' σ' ρ → ErOk c.toCc z' e cls dd → W cls dd σ' H'
  | .no => False
def LS (c : Fc) (T : List (Addr × Str)) (W : WX) (m : MS) : TS := fun D σ H => ∃ z ρ st, Wf c.toCc T z st H ∧ Rσ c z σ ρ ∧ PstS c T W z (m ρ st) D
section
variable {c : Fc} {T : List (Addr × Str)} {W : WX} {z z1 : Zw} {D D' : Ends}
theorem PstS.le {o : Out} (h : PstS c T W z o D) (l : Le z z1) : PstS c T W z1 o D := by
  cases o with
  | nx ρ st => exact fun z' H' σ' l' => h z' H' σ' (l.trans l')
  | rt d st => exact fun z' H' v l' => h z' H' v (l.trans l')
  | bk ρ st => exact fun z' H' σ' l' => h z' H' σ' (l.trans l')
  | ct ρ st => exact fun z' H' σ' l' => h z' H' σ' (l.trans l')
  | er e ρ st => exact fun z' H' σ' cls dd l' => h z' H' σ' cls dd (l.trans l')
  | no => exact h
theorem PstS.not_no {o : Out} (h : PstS c T W z o D) : o ≠ .no := fun e => by
  subst e
  exact h
end
/-- a value's way into a statement -/
def sBind {α : Type} (r : Res α) (ρ : Env) (f : α → Store → Out) : Out := match r with
  | .ok d st => f d st
  | .er e st => .er e ρ st
  | .no => .no
@[simp] theorem sBind_ok {α : Type} (a : α) (st : Store) (ρ : Env) (f : α → Store → Out) : sBind (.ok a st) ρ f = f a st := rfl
@[simp] theorem sBind_er {α : Type} (e : Er) (st : Store) (ρ : Env) (f : α → Store → Out) : sBind (.er e st) ρ f = .er e ρ st := rfl
@[simp] theorem sBind_no {α : Type} (ρ : Env) (f : α → Store → Out) : sBind .no ρ f = .no := rfl
section
variable {c : Fc} {T : List (Addr × Str)} {W : WX} {z : Zw} {D : Ends} {α β : Type} {R : Zw → β → α → Prop}
theorem PstS.bnd {r : Res α} {ρ : Env} {f : α → Store → Out} {σ : L2.St} (h : PstS c T W z (sBind r ρ f) D) (rs : Rσ c z σ ρ) :
    Pst R c T W z σ r fun x H1 => ∃ z1 st1 d, Le z z1 ∧ Wf c.toCc T z1 st1 H1 ∧ R z1 x d ∧ PstS c T W z1 (f d st1) D := by
  cases r with
  | ok d st' => exact fun z' H' v l w r => ⟨z', st', d, l, w, r, h.le l⟩
  | er e st' => exact fun z' H' cls dd l w eo => h z' H' σ cls dd l w (rs.mono l) eo
  | no => exact h
end
/-! ### outcomes -/
def sNext : MS := fun ρ st => .nx ρ st
def sSeq (m n : MS) : MS := fun ρ st => match m ρ st with
  | .nx ρ' st' => n ρ' st'
  | o => o
def sDrop (a : ME) : MS := fun ρ st => sBind (a ρ st) ρ fun _ st => .nx ρ st
def sRet (a : ME) : MS := fun ρ st => sBind (a ρ st) ρ fun d st => .rt d st
def sRetN : MS := fun _ st => .rt .non st
def sIf (t : MT) (m n : MS) : MS := fun ρ st => sBind (t ρ st) ρ fun k st => if k then m ρ st else n ρ st
def sBreak : MS := fun ρ st => .bk ρ st
def sCont : MS := fun ρ st => .ct ρ st
/-- where a value goes -/
abbrev MG := D → Env → Option Env
def gN (i : Nat) : MG := fun d ρ => some (ρ.set i (some d))
def gL : List MG → List D → Env → Option Env
  | [], [], ρ => some ρ
  | g :: gs, d :: ds, ρ => match g d ρ with
    | some ρ' => gL gs ds ρ'
    | none => none
  | _, _, _ => none
def gT (gs : List MG) : MG := fun d ρ => match d with
  | .tup ds => gL gs ds ρ
  | _ => none
def sAsg (a : ME) (g : MG) : MS := fun ρ st => sBind (a ρ st) ρ fun d st => match g d ρ with
  | some ρ' => .nx ρ' st
  | none => .no
def sPar (i j : Nat) (a : MA) : MS := fun ρ st => sBind (a ρ st) ρ fun ds st => match ds with
  | [x, y] => .nx ((ρ.set i (some x)).set j (some y)) st
  | _ => .no
def sPar3 (i j k : Nat) (a : MA) : MS := fun ρ st => sBind (a ρ st) ρ fun ds st => match ds with
  | [x, y, w] => .nx (((ρ.set i (some x)).set j (some y)).set k (some w)) st
  | _ => .no
def sAug (i : Nat) (f : D → D → Store → Option D) (a : ME) : MS := fun ρ st => match ρ[i]? with
  | some (some x) => sBind (a ρ st) ρ fun y st => match f x y st with
    | some d => .nx (ρ.set i (some d)) st
    | none => .no
  | _ => .no
/-- o[i] = v, o a list of the store -/
def putD (o i v : D) (st : Store) : Option Store := match o, i with
  | .ref n, .int k => match st[n]? with
    | some (.lst ds) => (atN ds.length k).map fun j => st.set n (.lst (ds.set j v))
    | _ => none
  | _, _ => none
def sPut (o i a : ME) : MS := fun ρ st => sBind (a ρ st) ρ fun v st => sBind (o ρ st) ρ fun x st => sBind (i ρ st) ρ fun k st => match putD x k v st with
  | some st' => .nx ρ st'
  | none => .no
section
variable {X : Cx} {c : Fc} {T : List (Addr × Str)} {W : WX} {a b d : PySem.Expr} {ma mb md : ME} {pos : Pos} {s1 : Stmt} {r1 : List Stmt} {m n : MS} {mr : MA} {mt : MT}
abbrev SD (X : Cx) (c : Fc) (T : List (Addr × Str)) (W : WX) (s : Stmt) (m : MS) : Prop := PS X s (LS c T W m)
abbrev SsD (X : Cx) (c : Fc) (T : List (Addr × Str)) (W : WX) (s : List Stmt) (m : MS) : Prop := PSs X s (LS c T W m)
theorem ss_nil : SsD X c T W [] sNext := imp_PSs pss_nil fun D σ H ⟨z, ρ, st, w, r, q⟩ => q z H σ (Le.refl z) w r
theorem seq_ok {D : Ends} {z : Zw} {ρ : Env} {st : Store} (q : PstS c T W z (sSeq m n ρ st) D) : PstS c T W z (m ρ st) { D with nx := LS c T W n D } := by
  unfold sSeq at q
  cases e : m ρ st with
  | nx ρ' st' =>
    rw [e] at q
    exact fun z' H' σ' l w r => ⟨z', ρ', st', w, r, q.le l⟩
  | rt d st' => rw [e] at q; exact q
  | bk ρ' st' => rw [e] at q; exact q
  | ct ρ' st' => rw [e] at q; exact q
  | er x ρ' st' => rw [e] at q; exact q
  | no => rw [e] at q; exact q
theorem ss_cons (h1 : SD X c T W s1 m) (h2 : SsD X c T W r1 n) : SsD X c T W (s1 :: r1) (sSeq m n) :=
  imp_PSs (pss_cons h1 h2) fun D σ H ⟨z, ρ, st, w, r, q⟩ => ⟨z, ρ, st, w, r, seq_ok q⟩
theorem ss_one (h1 : SD X c T W s1 m) : SsD X c T W [s1] m := pss_one h1
theorem s_pass : SD X c T W (.Pass pos) sNext := imp_PS ps_pass fun D σ H ⟨z, ρ, st, w, r, q⟩ => q z H σ (Le.refl z) w r
theorem s_break : SD X c T W (.Break pos) sBreak := imp_PS ps_break fun D σ H ⟨z, ρ, st, w, r, q⟩ => q z H σ (Le.refl z) w r
theorem s_cont : SD X c T W (.Continue pos) sCont := imp_PS ps_continue fun D σ H ⟨z, ρ, st, w, r, q⟩ => q z H σ (Le.refl z) w r
theorem s_drop (ha : PD X c T W a ma) (hs : swapsWith a none pos.line X.env = pure false := by rfl) : SD X c T W (.Expr a pos) (sDrop ma) :=
  imp_PS (ps_expr ha hs) fun D σ H ⟨z, ρ, st, w, r, q⟩ => ⟨z, ρ, st, w, r, (PstS.bnd q r).imp fun x H1 ⟨z1, st1, dx, l1, w1, rx, q1⟩ => q1 z1 H1 σ (Le.refl z1) w1 (r.mono l1)⟩
theorem s_ret (ha : PD X c T W a ma) : SD X c T W (.Return (some a) pos) (sRet ma) :=
  imp_PS (ps_ret ha) fun D σ H ⟨z, ρ, st, w, r, q⟩ => ⟨z, ρ, st, w, r, (PstS.bnd q r).imp fun x H1 ⟨z1, st1, dx, l1, w1, rx, q1⟩ => q1 z1 H1 x (Le.refl z1) w1 rx⟩
theorem s_retN : SD X c T W (.Return none pos) sRetN := imp_PS ps_retN fun D σ H ⟨z, ρ, st, w, r, q⟩ => q z H _ (Le.refl z) w .non
theorem s_if {t : PySem.Expr} {x y : List Stmt} (ht : PT X t (LT c T W mt)) (h1 : SsD X c T W x m) (h2 : SsD X c T W y n) : SD X c T W (.If t x y pos) (sIf mt m n) :=
  imp_PS (ps_if ht h1 h2) fun D σ H ⟨z, ρ, st, w, r, q⟩ => ⟨z, ρ, st, w, r, (PstS.bnd q r).imp fun k H1 ⟨z1, st1, k', l1, w1, rk, q1⟩ => by
    cases (show k = k' from rk)
    cases k with
    | true => exact iteT ⟨z1, ρ, st1, w1, r.mono l1, q1⟩
    | false => exact iteF ⟨z1, ρ, st1, w1, r.mono l1, q1⟩⟩
/-! ### targets -/
/-- nothing but these slots -/
def Only (is : List Nat) (σ σ' : L2.St) : Prop := σ'.length = σ.length ∧ ∀ j, j ∉ is → σ'[j]? = σ[j]?
theorem Only.refl (σ : L2.St) : Only [] σ σ := ⟨rfl, fun _ _ => rfl⟩
theorem Only.trans {is js : List Nat} {σ σ1 σ2 : L2.St} (a : Only is σ σ1) (b : Only js σ1 σ2) : Only (is ++ js) σ σ2 :=
  ⟨b.1.trans a.1, fun j h => (b.2 j (fun q => h (List.mem_append_right _ q))).trans (a.2 j fun q => h (List.mem_append_left _ q))⟩
def LG (c : Fc) (T : List (Addr × Str)) (is : List Nat) (g : MG) : TG := fun v σ H Q => ∃ z ρ st d ρ', Wf c.toCc T z st H ∧ Rσ c z σ ρ ∧ Rp c.toCc z v d ∧ g d ρ = some ρ' ∧ ∀ σ', Rσ c z σ' ρ' → Only is σ σ' → Q σ' H
def LGs (c : Fc) (T : List (Addr × Str)) (is : List Nat) (gs : List MG) : TGs := fun vs σ H Q => ∃ z ρ st ds ρ', Wf c.toCc T z st H ∧ Rσ c z σ ρ ∧ Rps c.toCc z vs ds ∧ gL gs ds ρ = some ρ' ∧ ∀ σ', Rσ c z σ' ρ' → Only is σ σ' → Q σ' H
theorem imp_PG {e : PySem.Expr} {t t' : TG} (h : PG X e t) (k : ∀ v σ H Q, t' v σ H Q → t v σ H Q) : PG X e t' := ⟨fun pins s σ H v u Q I r q => h.run pins s σ H v u Q I r (k _ _ _ _ q)⟩
theorem imp_PGs {e : List PySem.Expr} {t t' : TGs} (h : PGs X e t) (k : ∀ v σ H Q, t' v σ H Q → t v σ H Q) : PGs X e t' := ⟨fun pins s σ H v u Q I r q => h.run pins s σ H v u Q I r (k _ _ _ _ q)⟩
theorem g_name (i : Nat) {x : Str} (hN : X.N.Nodup) (hi : X.N[i]? = some x := by rfl) (hx : Loc X.env.scope x := by first | exact Or.inl rfl | exact Or.inr rfl) (hf : X.fn x = true ∨ X.env.scope.names.lookup x = some .local := by first | exact .inl rfl | exact .inr rfl) : PG X (.Name x pos) (LG c T [i] (gN i)) :=
  imp_PG (pg_name hN hi hx hf) fun v σ H Q ⟨z, ρ, st, d, ρ', w, r, rv, e, q⟩ => q _ (by cases e; exact r.set (.d rv) i) ⟨by rw [List.length_set], fun j hj => List.getElem?_set_ne (fun e => hj (by simp [e]))⟩
theorem gs_nil : PGs X [] (LGs c T [] []) := imp_PGs pgs_nil fun vs σ H Q ⟨z, ρ, st, ds, ρ', w, r, rv, e, q⟩ => by
  cases rv with
  | nil => cases e; exact ⟨rfl, q _ r (Only.refl _)⟩
  | cons _ _ => cases e
theorem gs_cons {e : PySem.Expr} {es : List PySem.Expr} {g : MG} {gs : List MG} {is js : List Nat} (h1 : PG X e (LG c T is g)) (h2 : PGs X es (LGs c T js gs)) (hs : (assignEach (e :: es) X.env).map (·.2) = assign e X.env :: (assignEach es X.env).map (·.2) := by rfl) : PGs X (e :: es) (LGs c T (is ++ js) (g :: gs)) :=
  imp_PGs (pgs_cons h1 h2 hs) fun vs σ H Q ⟨z, ρ, st, ds, ρ', w, r, rv, e, q⟩ => by
    cases rv with
    | nil => cases e
    | cons rd rr =>
      unfold gL at e
      split at e
      · rename_i ρ1 h
        exact ⟨_, _, rfl, z, ρ, st, _, ρ1, w, r, rd, h, fun σ' r' o' => ⟨z, ρ1, st, _, ρ', w, r', rr, e, fun σ2 r2 o2 => q σ2 r2 (o'.trans o2)⟩⟩
      · cases e
theorem g_tup (hK : X.K = c.K) (hc : X.calm = true) {es : List PySem.Expr} {k : Nat} {gs : List MG} {is : List Nat} (h : PGs X es (LGs c T is gs)) (hn : (assignEach es X.env).length = gs.length := by rfl) (hst : (assignEach es X.env).findIdx? (·.1) = none := by rfl) : PG X (.Tuple es k pos) (LG c T is (gT gs)) :=
  imp_PG (pg_tup hc h hn hst) fun v σ H Q ⟨z, ρ, st, d, ρ', w, r, rv, e, q⟩ => by
    unfold gT at e
    split at e
    · cases rv with
      | tup s1 rs =>
        have hl : ∀ (gs : List MG) (ds : List D) (ρ ρ' : Env), gL gs ds ρ = some ρ' → ds.length = gs.length := by
          intro gs
          induction gs with
          | nil => intro ds ρ ρ' h; cases ds with
            | nil => rfl
            | cons _ _ => cases h
          | cons g gs ih => intro ds ρ ρ' h; cases ds with
            | nil => cases h
            | cons d ds =>
              unfold gL at h
              split at h
              · have := ih ds _ _ h
                simp [this]
              · cases h
        exact ⟨_, _, rfl, by rw [hK]; exact w.tup s1, by rw [rs.len]; exact hl _ _ _ _ e, z, ρ, st, _, ρ', w, r, rs, e, q⟩
    · cases e
theorem s_asg {tg : PySem.Expr} {g : MG} {is : List Nat} (ha : PD X c T W a ma) (hg : PG X tg (LG c T is g)) (hs : swapsWithSole [tg] a pos.line X.env = pure false := by rfl) (hw : swappedStores [tg] a X.env = pure none := by rfl) (h1 : (assignEach [tg] X.env).map (·.2) = [assign tg X.env] := by rfl) :
    SD X c T W (.Assign [tg] a pos) (sAsg ma g) :=
  imp_PS (ps_asg ha hg hs hw h1) fun D σ H ⟨z, ρ, st, w, r, q⟩ => ⟨z, ρ, st, w, r, (PstS.bnd q r).imp fun x H1 ⟨z1, st1, dx, l1, w1, rx, q1⟩ => by
    split at q1
    · rename_i ρ' e
      exact ⟨z1, ρ, st1, dx, ρ', w1, r.mono l1, rx, e, fun σ' r' _ => q1 z1 H1 σ' (Le.refl z1) w1 r'⟩
    · exact q1.elim⟩
theorem s_set (i : Nat) {x : Str} {pos' : Pos} (ha : PD X c T W a ma) (hN : X.N.Nodup) (hi : X.N[i]? = some x := by rfl) (hx : Loc X.env.scope x := by first | exact Or.inl rfl | exact Or.inr rfl) (hs : swapsWith a (some (.Name x pos')) pos.line X.env = pure false := by rfl)
    (hf : X.fn x = true ∨ X.env.scope.names.lookup x = some .local := by first | exact .inl rfl | exact .inr rfl) : SD X c T W (.Assign [.Name x pos'] a pos) (sAsg ma (gN i)) :=
  imp_PS (ps_set hN hi hx ha hs hf) fun D σ H ⟨z, ρ, st, w, r, q⟩ => ⟨z, ρ, st, w, r, (PstS.bnd q r).imp fun x H1 ⟨z1, st1, dx, l1, w1, rx, q1⟩ => q1 z1 H1 _ (Le.refl z1) w1 ((r.mono l1).set (.d rx) i)⟩
theorem s_par (i j : Nat) {x y : Str} {px py pt : Pos} {kt k2 pt2} (hc : X.calm = true) (ha : PA X [a, b] (LA c T W mr)) (hN : X.N.Nodup) (hi : X.N[i]? = some x := by rfl) (hj : X.N[j]? = some y := by rfl) (hij : i ≠ j := by decide)
    (hx : X.env.scope.names.lookup x = some .local := by rfl) (hy : X.env.scope.names.lookup y = some .local := by rfl)
    (hw : swappedStores [.Tuple [.Name x px, .Name y py] kt pt] (.Tuple [a, b] k2 pt2) X.env = pure (some [x, y]) := by rfl)
    (hs : swapsWithSole [.Tuple [.Name x px, .Name y py] kt pt] (.Tuple [a, b] k2 pt2) pos.line X.env = pure false := by rfl) :
    SD X c T W (.Assign [.Tuple [.Name x px, .Name y py] kt pt] (.Tuple [a, b] k2 pt2) pos) (sPar i j mr) :=
  imp_PS (ps_par hc hN hi hj hij hx hy ha hw hs) fun D σ H ⟨z, ρ, st, w, r, q⟩ => ⟨z, ρ, st, w, r, (PstS.bnd q r).imp fun xs H1 ⟨z1, st1, ds, l1, w1, rs, q1⟩ => by
    split at q1
    · cases rs with
      | cons ra rr => cases rr with
        | cons rb rr => cases rr with
          | nil => exact ⟨_, _, rfl, q1 z1 H1 _ (Le.refl z1) w1 (((r.mono l1).set (.d ra) i).set (.d rb) j)⟩
    · exact q1.elim⟩
/-! ### name op= e -/
def rIp (c : Cc) (T : List (Addr × Str)) (f : D → D → Store → Option D) : TIp := fun x y H Q => ∃ z st dx dy d, Wf c T z st H ∧ Rp c z x dx ∧ Rp c z y dy ∧ f dx dy st = some d ∧ ∀ z' H' v, Le z z' → Wf c T z' st H' → Rp c z' v d → Q v H'
theorem s_aug (i : Nat) {x : Str} {op : Operator} {f : D → D → Store → Option D} {pos' : Pos} (ho : PIp X op (rIp c.toCc T f)) (ha : PD X c T W a ma) (hN : X.N.Nodup) (hi : X.N[i]? = some x := by rfl) (hx : Loc X.env.scope x := by first | exact Or.inl rfl | exact Or.inr rfl)
    (hf : X.fn x = true ∨ X.env.scope.names.lookup x = some .local := by first | exact .inl rfl | exact .inr rfl) (hn : ∀ n y st, f (.clo n) y st = none := by intro n y st; cases y <;> rfl) : SD X c T W (.AugAssign (.Name x pos') op a pos) (sAug i f ma) :=
  imp_PS (ps_aug hN hi hx ha ho hf) fun D σ H ⟨z, ρ, st, w, r, q⟩ => by
    unfold sAug at q
    split at q
    · rename_i dx e
      obtain ⟨v, h1, h2⟩ := r.at_ i dx e
      refine ⟨v, h1, z, ρ, st, w, r, (PstS.bnd q r).imp fun y H1 ⟨z1, st1, dy, l1, w1, ry, q1⟩ => ?_⟩
      split at q1
      · rename_i dd e2
        cases h2 with
        | clo _ => rw [hn] at e2; cases e2
        | exc _ => rw [hn] at e2; cases e2
        | d h2 => exact ⟨z1, st1, dx, dy, dd, w1, h2.mono l1, ry, e2, fun z2 H2 v2 l2 w2 r2 => q1 z2 H2 _ l2 w2 ((r.mono (l1.trans l2)).set (.d r2) i)⟩
      · exact q1.elim
    · exact q.elim
theorem atN_lt {n : Nat} {k : Int} {j : Nat} (h : atN n k = some j) : j < n := by
  unfold atN at h
  split at h
  · split at h
    · cases h; omega
    · cases h
  · split at h
    · cases h; omega
    · cases h
end
end Bw
set_option linter.all false
set_option autoImplicit false
set_option maxRecDepth 100000
/-! Loops and comprehensions by data. -/
namespace Bw
open PySem PySem.Spec PyProof.Rows L2
/-- what is walked: its items, what must stay -/
structure Itm where
  ds : List D
  chk : Store → Prop
abbrev MI := Env → Store → Res Itm
/-- the iterator gives the items -/
def Tells (c : Cc) (T : List (Addr × Str)) (z : Zw) (J : It) (it : Itm) : Prop := ∀ (i : Nat) (z1 : Zw) (st1 : Store) (H1 : Hp), Lg z z1 → Wf c T z1 st1 H1 → it.chk st1 →
  (∀ d, it.ds[i]? = some d → J.go i H1 ∧ ∀ x H2, J.yld i H1 x H2 → ∃ z2, Le z1 z2 ∧ Wf c T z2 st1 H2 ∧ Rp c z2 x d) ∧ (it.ds.length = i → J.stop i H1)
def LI (c : Fc) (T : List (Addr × Str)) (W : WX) (m : MI) : TI := fun σ H R => ∃ z ρ st, Wf c.toCc T z st H ∧ Rσ c z σ ρ ∧ Pst (Tells c.toCc T) c T W z σ (m ρ st) R
open Classical in
noncomputable def loopF (chk : Store → Prop) (g : MG) (body : MS) : List D → Env → Store → Out
  | [], ρ, st => if chk st then .nx ρ st else .no
  | d :: ds, ρ, st => if chk st then match g d ρ with
      | none => .no
      | some ρ' => match body ρ' st with
        | .nx ρ'' st'' => loopF chk g body ds ρ'' st''
        | .ct ρ'' st'' => loopF chk g body ds ρ'' st''
        | .bk ρ'' st'' => .nx ρ'' st''
        | o => o
    else .no
noncomputable def sFor (it : MI) (g : MG) (body : MS) : MS := fun ρ st => sBind (it ρ st) ρ fun I st => loopF I.chk g body I.ds ρ st
section
variable {X : Cx} {c : Fc} {T : List (Addr × Str)} {W : WX} {a b d : PySem.Expr} {ma mb md : ME} {pos : Pos} {m n : MS} {mt : MT} {is : List Nat}
theorem s_for (hp : PassesOwn (model X.prog X.w) X.A X.env X.xe) (hc : X.calm = true) {tg iter : PySem.Expr} {body : List Stmt} {mi : MI} {g : MG} (hi : PI X tg iter (LI c T W mi)) (hg : PG X tg (LG c T is g)) (hb : SsD X c T W body m)
    (hs : ∀ x, foldedSetIterable iter X.env x = pure x := by intro _; rfl) : SD X c T W (.For tg iter body [] pos) (sFor mi g m) :=
  imp_PS (ps_for hp hc hi hg hb hs) fun D σ H ⟨z, ρ, st, w, r, q⟩ => ⟨z, ρ, st, w, r, (PstS.bnd q r).imp fun J H1 ⟨z1, st1, it, l1, w1, tl, q1⟩ => by
    refine ⟨fun i k σ H => k = it.ds.length - i ∧ i ≤ it.ds.length ∧ ∃ z' ρ' st', Le z1 z' ∧ Wf c.toCc T z' st' H ∧ Rσ c z' σ ρ' ∧ PstS c T W z' (loopF it.chk g m (it.ds.drop i) ρ' st') D,
      ⟨_, rfl, Nat.zero_le _, z1, ρ, st1, Le.refl z1, w1, r.mono l1, q1⟩, ?_⟩
    rintro i k σ2 H2 ⟨rfl, hle, z2, ρ2, st2, l2, w2, r2, q2⟩
    cases e : it.ds.drop i with
    | nil =>
      rw [e] at q2
      unfold loopF at q2
      split at q2
      · rename_i hk
        have hl : it.ds.length ≤ i := List.drop_eq_nil_iff.mp e
        exact .inl ⟨(tl i z2 st2 H2 l2.lg w2 hk).2 (Nat.le_antisymm hl hle), q2 z2 H2 σ2 (Le.refl z2) w2 r2⟩
      · exact q2.elim
    | cons dd ds =>
      rw [e] at q2
      unfold loopF at q2
      split at q2
      · rename_i hk
        have hlt : i < it.ds.length := by
          rcases Nat.lt_or_ge i it.ds.length with h | h
          · exact h
          · rw [List.drop_eq_nil_iff.mpr h] at e; cases e
        have hget : it.ds[i]? = some dd := by
          have := congrArg List.head? e
          rw [List.head?_drop] at this
          exact this
        have hdrop : it.ds.drop (i + 1) = ds := by
          have := congrArg List.tail e
          rw [List.tail_drop] at this
          exact this
        obtain ⟨go, yl⟩ := (tl i z2 st2 H2 l2.lg w2 hk).1 dd hget
        refine .inr ⟨go, fun σ' H' => ∃ z' ρ' st', Le z1 z' ∧ Wf c.toCc T z' st' H' ∧ Rσ c z' σ' ρ' ∧ PstS c T W z' (loopF it.chk g m ds ρ' st') D, fun σ' H' ⟨z', ρ', st', h⟩ => ⟨it.ds.length - (i + 1), by omega, rfl, hlt, z', ρ', st', by rw [hdrop]; exact h⟩, fun x H3 y => ?_⟩
        obtain ⟨z3, l3, w3, rx⟩ := yl x H3 y
        split at q2
        · exact q2.elim
        · rename_i ρ3 eg
          refine ⟨z3, ρ2, st2, dd, ρ3, w3, r2.mono l3, rx, eg, fun σ3 r3 _ => ⟨z3, ρ3, st2, w3, r3, ?_⟩⟩
          have q3 := q2.le l3
          cases em : m ρ3 st2 with
          | nx ρ4 st4 => rw [em] at q3; exact fun z4 H4 σ4 l4 w4 r4 => ⟨z4, ρ4, st4, (l2.trans l3).trans l4, w4, r4, q3.le l4⟩
          | ct ρ4 st4 => rw [em] at q3; exact fun z4 H4 σ4 l4 w4 r4 => ⟨z4, ρ4, st4, (l2.trans l3).trans l4, w4, r4, q3.le l4⟩
          | bk ρ4 st4 => rw [em] at q3; exact q3
          | rt d4 st4 => rw [em] at q3; exact q3
          | er e4 ρ4 st4 => rw [em] at q3; exact q3
          | no => rw [em] at q3; exact q3
      · exact q2.elim⟩
/-! ### while -/
def whileF (t : MT) (b : MS) : Nat → Env → Store → Out
  | 0, _, _ => .no
  | n + 1, ρ, st => sBind (t ρ st) ρ fun k st => if k then match b ρ st with
      | .nx ρ' st' => whileF t b n ρ' st'
      | .ct ρ' st' => whileF t b n ρ' st'
      | .bk ρ' st' => .nx ρ' st'
      | o => o
    else .nx ρ st
open Classical in
noncomputable def sWhile (t : MT) (b : MS) : MS := fun ρ st => if h : ∃ n, whileF t b n ρ st ≠ .no then whileF t b (Classical.choose h) ρ st else .no
theorem while_more {t : MT} {b : MS} : ∀ (n : Nat) (ρ : Env) (st : Store), whileF t b n ρ st ≠ .no → whileF t b (n + 1) ρ st = whileF t b n ρ st
  | 0, _, _, h => absurd rfl h
  | n + 1, ρ, st, h => by
    have h' := h
    unfold whileF at h' ⊢
    cases e : t ρ st with
    | ok k st1 =>
      rw [e] at h'
      simp only [sBind_ok] at h' ⊢
      cases k with
      | false => rfl
      | true =>
        simp only [if_true] at h' ⊢
        cases eb : b ρ st1 with
        | nx ρ2 st2 => rw [eb] at h'; exact while_more n ρ2 st2 h'
        | ct ρ2 st2 => rw [eb] at h'; exact while_more n ρ2 st2 h'
        | _ => rfl
    | er _ _ => rfl
    | no => rfl
theorem while_add {t : MT} {b : MS} {n : Nat} {ρ : Env} {st : Store} (h : whileF t b n ρ st ≠ .no) : ∀ k, whileF t b (n + k) ρ st = whileF t b n ρ st
  | 0 => rfl
  | k + 1 => by
    have ih := while_add h k
    rw [← ih]
    exact while_more (n + k) ρ st (by rw [ih]; exact h)
theorem sWhile_of {t : MT} {b : MS} {ρ : Env} {st : Store} {o : Out} (n : Nat) (h : whileF t b n ρ st = o) (ho : o ≠ .no) : sWhile t b ρ st = o := by
  have hx : ∃ n, whileF t b n ρ st ≠ .no := ⟨n, by rw [h]; exact ho⟩
  unfold sWhile
  rw [dif_pos hx]
  have h1 := Classical.choose_spec hx
  have e1 := while_add h1 n
  have e2 := while_add (n := n) (ρ := ρ) (st := st) (by rw [h]; exact ho) (Classical.choose hx)
  rw [Nat.add_comm] at e2
  rw [← e1, e2, h]
theorem s_while (hp : PassesOwn (model X.prog X.w) X.A X.env X.xe) {t : PySem.Expr} {body : List Stmt} (ht : PT X t (LT c T W mt)) (hb : SsD X c T W body m) : SD X c T W (.While t body [] pos) (sWhile mt m) :=
  imp_PS (ps_while hp ht hb) fun D σ H ⟨z, ρ, st, w, r, q⟩ => by
    unfold sWhile at q
    split at q
    · refine ⟨fun k σ H => ∃ z' ρ' st', Le z z' ∧ Wf c.toCc T z' st' H ∧ Rσ c z' σ ρ' ∧ PstS c T W z' (whileF mt m k ρ' st') D, ⟨_, z, ρ, st, Le.refl z, w, r, q⟩, ?_⟩
      rintro k σ2 H2 ⟨z2, ρ2, st2, l2, w2, r2, q2⟩
      cases k with
      | zero => exact q2.elim
      | succ k =>
        unfold whileF at q2
        refine ⟨z2, ρ2, st2, w2, r2, (PstS.bnd q2 r2).imp fun x H3 ⟨z3, st3, kk, l3, w3, rk, q3⟩ => ?_⟩
        cases (show x = kk from rk)
        cases x with
        | false => exact iteF (q3 z3 H3 σ2 (Le.refl z3) w3 (r2.mono l3))
        | true =>
          refine iteT ⟨fun σ' H' => ∃ z' ρ' st', Le z z' ∧ Wf c.toCc T z' st' H' ∧ Rσ c z' σ' ρ' ∧ PstS c T W z' (whileF mt m k ρ' st') D, fun σ' H' h => ⟨k, Nat.lt_succ_self k, h⟩, z3, ρ2, st3, w3, r2.mono l3, ?_⟩
          simp only [if_true] at q3
          cases em : m ρ2 st3 with
          | nx ρ4 st4 => rw [em] at q3; exact fun z4 H4 σ4 l4 w4 r4 => ⟨z4, ρ4, st4, (l2.trans l3).trans l4, w4, r4, q3.le l4⟩
          | ct ρ4 st4 => rw [em] at q3; exact fun z4 H4 σ4 l4 w4 r4 => ⟨z4, ρ4, st4, (l2.trans l3).trans l4, w4, r4, q3.le l4⟩
          | bk ρ4 st4 => rw [em] at q3; exact q3
          | rt d4 st4 => rw [em] at q3; exact q3
          | er e4 ρ4 st4 => rw [em] at q3; exact q3
          | no => rw [em] at q3; exact q3
    · exact q.elim
end
/-! ### [e for x in xs if t] -/
def wipeE (ρ : Env) : List Nat → Env
  | [] => ρ
  | v :: vs => (wipeE ρ vs).set v none
theorem wipe_get {α : Type} {σ : List (Option α)} {w : List Nat → List (Option α)} (h0 : w [] = σ) (h1 : ∀ v vs, w (v :: vs) = (w vs).set v none) : ∀ (vs : List Nat), (w vs).length = σ.length ∧ ∀ j, (w vs)[j]? = if j ∈ vs ∧ j < σ.length then some none else σ[j]?
  | [] => ⟨by rw [h0], fun j => by rw [h0, if_neg (by simp)]⟩
  | v :: vs => by
    obtain ⟨ih1, ih2⟩ := wipe_get h0 h1 vs
    refine ⟨by rw [h1, List.length_set, ih1], fun j => ?_⟩
    rw [h1]
    by_cases hj : v = j
    · subst hj
      by_cases hl : v < σ.length
      · rw [List.getElem?_set_self (by rw [ih1]; exact hl), if_pos ⟨List.mem_cons_self, hl⟩]
      · rw [List.getElem?_eq_none (by rw [List.length_set, ih1]; omega), if_neg (fun h => hl h.2), List.getElem?_eq_none (by omega)]
    · rw [List.getElem?_set_ne hj, ih2]
      by_cases h : j ∈ vs ∧ j < σ.length
      · rw [if_pos h, if_pos ⟨List.mem_cons_of_mem _ h.1, h.2⟩]
      · rw [if_neg h, if_neg (fun q => h ⟨(List.mem_cons.mp q.1).resolve_left (fun e => hj e.symm), q.2⟩)]
theorem wipe_at (σ : L2.St) (vs : List Nat) : (wipe σ vs).length = σ.length ∧ ∀ j, (wipe σ vs)[j]? = if j ∈ vs ∧ j < σ.length then some none else σ[j]? := wipe_get (w := wipe σ) rfl (fun _ _ => rfl) vs
theorem wipeE_at (ρ : Env) (vs : List Nat) : (wipeE ρ vs).length = ρ.length ∧ ∀ j, (wipeE ρ vs)[j]? = if j ∈ vs ∧ j < ρ.length then some none else ρ[j]? := wipe_get (w := wipeE ρ) rfl (fun _ _ => rfl) vs
theorem Rσ.wipe {c : Fc} {z : Zw} {σ : L2.St} {ρ : Env} (r : Rσ c z σ ρ) (vs : List Nat) : Rσ c z (wipe σ vs) (wipeE ρ vs) := by
  refine ⟨by rw [(wipe_at σ vs).1, (wipeE_at ρ vs).1]; exact r.len, fun i d e => ?_, r.le⟩
  rw [(wipeE_at ρ vs).2] at e
  by_cases h : i ∈ vs ∧ i < ρ.length
  · rw [if_pos h] at e; cases e
  · rw [if_neg h] at e
    obtain ⟨v, h1, h2⟩ := r.at_ i d e
    refine ⟨v, ?_, h2⟩
    rw [(wipe_at σ vs).2, if_neg (fun q => h ⟨q.1, by rw [← r.len]; exact q.2⟩)]
    exact h1
theorem Only.wipe {is vs : List Nat} {σ σ2 : L2.St} (o : Only is (wipe σ vs) σ2) (h : ∀ i ∈ is, i ∈ vs) : L2.wipe σ2 vs = L2.wipe σ vs := by
  refine List.ext_getElem? fun j => ?_
  have hl : σ2.length = σ.length := o.1.trans (wipe_at σ vs).1
  rw [(wipe_at σ2 vs).2, (wipe_at σ vs).2, hl]
  by_cases hj : j ∈ vs ∧ j < σ.length
  · rw [if_pos hj, if_pos hj]
  · rw [if_neg hj, if_neg hj]
    by_cases hv : j ∈ vs
    · have : ¬ j < σ.length := fun q => hj ⟨hv, q⟩
      rw [List.getElem?_eq_none (by omega), List.getElem?_eq_none (by omega)]
    · have := o.2 j (fun q => hv (h j q))
      rw [this, (wipe_at σ vs).2, if_neg hj]
open Classical in
noncomputable def lcF (chk : Store → Prop) (g : MG) (t : MT) (e : ME) : List D → List D → Env → Store → Res (List D)
  | [], acc, _, st => if chk st then .ok acc st else .no
  | d :: ds, acc, ρ, st => if chk st then match g d ρ with
      | none => .no
      | some ρ' => match t ρ' st with
        | .ok true st' => match e ρ' st' with
          | .ok y st'' => if Sz (acc.length + 1) then lcF chk g t e ds (acc ++ [y]) ρ st'' else .no
          | _ => .no
        | .ok false st' => lcF chk g t e ds acc ρ st'
        | _ => .no
    else .no
noncomputable def mLc (own : List Nat) (it : MI) (g : MG) (t : MT) (e : ME) : ME := fun ρ st => (it ρ st).bind fun I st => match lcF I.chk g t e I.ds [] (wipeE ρ own) st with
  | .ok acc st' => .ok (.lst acc) st'
  | _ => .no
/-- no test -/
def tYesM : MT := fun _ st => .ok true st
abbrev W0 : WX := fun _ _ _ _ => False
section
variable {X : Cx} {c : Fc} {T : List (Addr × Str)} {W : WX} {a b d : PySem.Expr} {ma mb md : ME} {pos : Pos} {m n : MS} {mt : MT} {is : List Nat}
theorem p_yes : PTs X [] (LT c T W tYesM) := ⟨fun pins s σ H Q I ⟨z, ρ, st, w, r, q⟩ => pts_nil.run pins s σ H Q I (q z H true (Le.refl z) w rfl)⟩
theorem p_if {t : PySem.Expr} (h : PT X t (LT c T W mt)) : PTs X [t] (LT c T W mt) := pts_one h
theorem lc_ok {own : List Nat} {mi : MI} {g : MG} {me : ME} {σ : L2.St} {H : Hp} {Q : VK} (hio : ∀ i ∈ is, i ∈ own) (q : LE c T W (mLc own mi g mt me) σ H Q) :
    tLc (LI c T W mi) (LG c T is g) (LT c T W0 mt) (LE c T W0 me) own σ H Q := by
  obtain ⟨z, ρ, st, w, r, q⟩ := q
  refine ⟨z, ρ, st, w, r, (Pst.bnd q).imp fun J H1 ⟨z1, st1, it, l1, w1, tl, q1⟩ => fun dp hdp => ?_⟩
  have r1 := (r.mono l1).wipe own
  have fD : z1.F dp = none := by
    cases e : z1.F dp with
    | none => rfl
    | some o =>
      have := (w1.fr _ _ e).1
      rw [hdp] at this
      cases this
  have nT : ∀ p ∈ T, p.1 ≠ dp := w1.neT hdp
  -- what the ghost has of the list that grows
  let zF : Zw → List V → Zw := fun z' vs => ⟨z'.G, z'.μ, upd z1.F dp (.lst vs)⟩
  let Wn : List D → Hp → Prop := fun ds H => ∃ z' st' acc vs, Lg z1 z' ∧ Wf c.toCc T (zF z' vs) st' H ∧ Rps c.toCc z' vs acc ∧ z'.F = upd z1.F dp (.lst vs) ∧
    ∃ fin st2, lcF it.chk g mt me ds acc (wipeE ρ own) st' = .ok fin st2 ∧ ∀ z3 H3 v, Le z1 z3 → Wf c.toCc T z3 st2 H3 → Rp c.toCc z3 v (.lst fin) → Q v H3
  have hend : ∃ fin st2, lcF it.chk g mt me it.ds [] (wipeE ρ own) st1 = .ok fin st2 ∧ ∀ z3 H3 v, Le z1 z3 → Wf c.toCc T z3 st2 H3 → Rp c.toCc z3 v (.lst fin) → Q v H3 := by
    split at q1
    · rename_i fin st2 e
      exact ⟨fin, st2, e, q1⟩
    · exact q1.elim
  refine ⟨fun i k H => k = it.ds.length - i ∧ i ≤ it.ds.length ∧ Wn (it.ds.drop i) H, ⟨_, rfl, Nat.zero_le _, ⟨z1.G, z1.μ, upd z1.F dp (.lst [])⟩, st1, [], [], ⟨fun _ _ h => h, [], (List.append_nil _).symm⟩, ?_, .nil, rfl, hend⟩, ?_⟩
  · refine (w1.more hdp).withF fun a o e => ?_
    by_cases ha : a = dp
    · subst ha
      rw [upd_same] at e ⊢
      cases e
      exact ⟨rfl, w1.noG hdp, w1.notin hdp, nT, _, rfl⟩
    · rw [upd_ne ha] at e ⊢
      exact w1.fr a o e
  rintro i k H2 ⟨rfl, hle, z2, st2, acc, vs, l2, w2, rv, eF, fin, st3, ef, q3⟩
  have ez : zF z2 vs = z2 := by
    show (⟨z2.G, z2.μ, upd z1.F dp (.lst vs)⟩ : Zw) = z2
    rw [← eF]
  rw [ez] at w2
  cases e : it.ds.drop i with
  | nil =>
    rw [e] at ef
    unfold lcF at ef
    split at ef
    · rename_i hk
      cases ef
      refine .inl ⟨(tl i z2 st2 H2 l2 w2 hk).2 (Nat.le_antisymm (List.drop_eq_nil_iff.mp e) hle), ?_⟩
      obtain ⟨hH, hG0, hμ, hT, _⟩ := w2.fr dp (.lst vs) (by rw [eF, upd_same])
      have hG : z1.G dp = none := w1.noG hdp
      have hG2 : z2.G dp = none ∨ z2.G dp = some (.lst vs) := by
        cases h : z2.G dp with
        | none => exact .inl rfl
        | some o =>
          have := w2.sub _ _ h
          rw [hH] at this
          exact .inr this.symm
      have lz : Le z1 ⟨upd z2.G dp (.lst vs), z2.μ, z1.F⟩ := ⟨fun a o h => by
        show upd z2.G dp (.lst vs) a = _
        rw [upd_ne (ne_of_none h hG)]
        exact l2.g _ _ h, l2.m, rfl⟩
      have lz2 : Le z2 ⟨upd z2.G dp (.lst vs), z2.μ, z2.F⟩ := ⟨fun a o h => by
        show upd z2.G dp (.lst vs) a = _
        by_cases ha : a = dp
        · subst ha
          rw [upd_same]
          rcases hG2 with x | x
          · rw [x] at h; cases h
          · rw [x] at h; exact h
        · rw [upd_ne ha]; exact h, ⟨[], (List.append_nil _).symm⟩, rfl⟩
      refine q3 ⟨upd z2.G dp (.lst vs), z2.μ, z1.F⟩ H2 (.ref dp) lz ⟨fun a o h => ?_, w2.len, w2.nd, fun n a o h1 h2 => ?_, w2.tab, fun p hp => ⟨?_, (w2.noT p hp).2⟩, fun a o h => ?_⟩ (.lst (vs := vs) upd_same (RpsF (F' := z1.F) (rv.mono lz2)))
      · have h' : upd z2.G dp (.lst vs) a = some o := h
        by_cases ha : a = dp
        · subst ha
          rw [upd_same] at h'
          rw [← h']; exact hH
        · rw [upd_ne ha] at h'
          exact w2.sub _ _ h'
      · obtain ⟨k1, k2⟩ := w2.obj n a o h1 h2
        have ne : a ≠ dp := fun h => hμ (h ▸ List.mem_of_getElem? h1)
        exact ⟨by show upd z2.G dp (.lst vs) a = none; rw [upd_ne ne]; exact k1, RpOF (F' := z1.F) (k2.mono lz2 rfl)⟩
      · show upd z2.G dp (.lst vs) p.1 = none
        rw [upd_ne (hT p hp)]
        exact (w2.noT p hp).1
      · have h' : z1.F a = some o := h
        have nea := ne_of_none h' fD
        obtain ⟨k1, k2, k3⟩ := w2.fr a o (by rw [eF, upd_ne nea]; exact h')
        exact ⟨k1, by show upd z2.G dp (.lst vs) a = none; rw [upd_ne nea]; exact k2, k3⟩
    · cases ef
  | cons dd ds =>
    rw [e] at ef
    unfold lcF at ef
    split at ef
    · rename_i hk
      have hlt : i < it.ds.length := by
        rcases Nat.lt_or_ge i it.ds.length with h | h
        · exact h
        · rw [List.drop_eq_nil_iff.mpr h] at e; cases e
      have hget : it.ds[i]? = some dd := by
        have := congrArg List.head? e
        rw [List.head?_drop] at this
        exact this
      have hdrop : it.ds.drop (i + 1) = ds := by
        have := congrArg List.tail e
        rw [List.tail_drop] at this
        exact this
      obtain ⟨go, yl⟩ := (tl i z2 st2 H2 l2 w2 hk).1 dd hget
      refine .inr ⟨go, fun H' => Wn ds H', fun H' h => ⟨it.ds.length - (i + 1), by omega, rfl, hlt, by rw [hdrop]; exact h⟩, fun x H3 y => ?_⟩
      obtain ⟨z3, l3, w3, rx⟩ := yl x H3 y
      split at ef
      · cases ef
      · rename_i ρ3 eg
        have rw2 : Rσ c z2 (wipe σ own) (wipeE ρ own) := ⟨r1.len, fun j d e => let ⟨v, h1, h2⟩ := r1.at_ j d e; ⟨v, h1, by
          cases h2 with
          | d h => exact .d (h.monoG l2)
          | clo h => exact .clo h
          | exc h => exact .exc h⟩, r1.le.trans l2⟩
        refine ⟨z3, wipeE ρ own, st2, dd, ρ3, w3, rw2.mono l3, rx, eg, fun σ3 r3 o3 => ⟨o3.wipe hio, z3, ρ3, st2, w3, r3, ?_⟩⟩
        have keepF : ∀ {z' : Zw} {v : List V}, Le z3 z' → z'.F = upd z1.F dp (.lst vs) := fun l => (l.f.trans l3.f).trans eF
        split at ef
        · rename_i st4 et
          rw [et]
          intro z4 H4 k4 l4 w4 rk
          cases rk
          refine iteT ⟨z4, ρ3, st4, w4, r3.mono l4, ?_⟩
          split at ef
          · rename_i y5 st5 ee
            rw [ee]
            split at ef
            · rename_i hz
              intro z5 H5 v5 l5 w5 r5
              have eF5 : z5.F = upd z1.F dp (.lst vs) := ((l5.f.trans l4.f).trans l3.f).trans eF
              obtain ⟨hH, hG0, hμ, hT, _⟩ := w5.fr dp (.lst vs) (by rw [eF5, upd_same])
              have hl : vs.length + 1 ≤ sizeLine := by rw [rv.len]; exact sz_of hz
              refine ⟨vs, hH, by omega, ⟨z5.G, z5.μ, upd z1.F dp (.lst (vs ++ [v5]))⟩, st5, acc ++ [y5], vs ++ [v5], (show Lg z1 _ from l2.trans ⟨(l3.trans (l4.trans l5)).g, (l3.trans (l4.trans l5)).m⟩), ?_, ?_, rfl, fin, st3, ef, q3⟩
              · refine ⟨fun a o h => ?_, w5.len, w5.nd, fun n a o h1 h2 => ?_, ?_, w5.noT, fun a o h => ?_⟩
                · have h' : z5.G a = some o := h
                  by_cases ha : a = dp
                  · subst ha
                    rw [hG0] at h'
                    cases h'
                  · rw [upd_ne ha]
                    exact w5.sub _ _ h'
                · obtain ⟨k1, k2⟩ := w5.obj n a o h1 h2
                  have ne : a ≠ dp := fun h => hμ (h ▸ List.mem_of_getElem? h1)
                  exact ⟨k1, RpOF (z := z5) (F' := upd z1.F dp (.lst (vs ++ [v5]))) (k2.mono (Le.refl z5) (upd_ne ne))⟩
                · exact tabs_put w5.tab hH
                · by_cases ha : a = dp
                  · subst ha
                    have h' : upd z1.F a (.lst (vs ++ [v5])) a = some o := h
                    rw [upd_same] at h' ⊢
                    cases h'
                    exact ⟨rfl, hG0, hμ, hT, _, rfl⟩
                  · have h' : upd z1.F dp (.lst (vs ++ [v5])) a = some o := h
                    rw [upd_ne ha] at h' ⊢
                    refine w5.fr a o ?_
                    rw [eF5, upd_ne ha]
                    exact h'
              · exact RpsF (F' := upd z1.F dp (.lst (vs ++ [v5]))) (((rv.mono l3).mono l4).mono l5 |>.app (.cons r5 .nil))
            · cases ef
          · cases ef
        · rename_i st4 et
          rw [et]
          intro z4 H4 k4 l4 w4 rk
          cases rk
          refine iteF ⟨z4, st4, acc, vs, l2.trans (l3.trans l4).lg, ?_, ((rv.mono l3).mono l4), (l4.f.trans l3.f).trans eF, fin, st3, ef, q3⟩
          have : zF z4 vs = z4 := by
            show (⟨z4.G, z4.μ, upd z1.F dp (.lst vs)⟩ : Zw) = z4
            rw [← (l4.f.trans l3.f).trans eF]
          rw [this]
          exact w4
        · cases ef
    · cases ef
end
end Bw
set_option linter.all false
set_option autoImplicit false
set_option maxRecDepth 100000
/-! What is walked. -/
namespace Bw
open PySem PySem.Spec PyProof.Rows L2
section
variable {c : Cc} {T : List (Addr × Str)} {z : Zw} {K : PySem.W.Frag}
abbrev still (ds : List D) : Itm := ⟨ds, fun _ => True⟩
theorem tells_tup (hK : K = c.K) {a : Addr} {vs : List V} {ds : List D} (s1 : SqT c.K z.G a vs) (rs : Rps c z vs ds) : Tells c T z (Itt K a) (still ds) := by
  subst hK
  intro i z1 st1 H1 l w1 _
  have sq : SqT c.K H1 a vs := w1.tup (seqT_mono l.g s1)
  refine ⟨fun d hd => ?_, fun hl => ⟨vs, sq, by rw [rs.len]; exact Nat.le_of_eq hl⟩⟩
  obtain ⟨v, hv, rv⟩ := rs.get hd
  refine ⟨⟨vs, v, sq, hv⟩, fun x H2 ⟨e, y⟩ => ?_⟩
  subst e
  have := y vs sq
  rw [hv] at this
  cases this
  exact ⟨z1, Le.refl z1, w1, rv.monoG l⟩
theorem tells_lst (hK : K = c.K) {a : Addr} {ds : List D} {chk : Store → Prop} (hs : ∀ z1 st1 H1, Lg z z1 → Wf c T z1 st1 H1 → chk st1 → ∃ vs, SqL c.K H1 a vs ∧ Rps c z1 vs ds) : Tells c T z (Itl K a) ⟨ds, chk⟩ := by
  subst hK
  intro i z1 st1 H1 l w1 hk
  obtain ⟨vs, sq, rs⟩ := hs z1 st1 H1 l w1 hk
  refine ⟨fun d hd => ?_, fun hl => ⟨vs, sq, by rw [rs.len]; exact Nat.le_of_eq hl⟩⟩
  obtain ⟨v, hv, rv⟩ := rs.get hd
  refine ⟨⟨vs, v, sq, hv⟩, fun x H2 ⟨e, y⟩ => ?_⟩
  subst e
  have := y vs sq
  rw [hv] at this
  cases this
  exact ⟨z1, Le.refl z1, w1, rv⟩
theorem Lg.at {z z' : Zw} (h : Lg z z') {n : Nat} {a : Addr} (e : z.μ[n]? = some a) : z'.μ[n]? = some a := h.le.at e
/-- the list of a walk: given as it stands -/
theorem lstAt {d : D} {v : V} {ds : List D} (r : Rp c z v (.lst ds)) : ∃ a vs, v = .ref a ∧ ∀ z1 st1 H1, Lg z z1 → Wf c T z1 st1 H1 → SqL c.K H1 a vs ∧ Rps c z1 vs ds := by
  cases r with
  | lst s1 rs => exact ⟨_, _, rfl, fun z1 st1 H1 l w1 => ⟨.inl (.inl (w1.sub _ _ (l.g _ _ s1))), rs.monoG l⟩⟩
theorem ints_get {ns : List Int} {i : Nat} : (ns.map V.int)[i]? = (ns[i]?).map V.int := by rw [List.getElem?_map]
theorem tells_str (s : List Nat) : Tells c T z (Its (strOf s)) (still (s.map fun a => .str [a])) := by
  intro i z1 st1 H1 l w1 _
  refine ⟨fun d hd => ?_, fun hl => ?_⟩
  · have hd' : (s.map fun a => D.str [a])[i]? = some d := hd
    rw [List.getElem?_map] at hd'
    cases e : s[i]? with
    | none => rw [e] at hd'; cases hd'
    | some a =>
      rw [e] at hd'
      cases hd'
      refine ⟨?_, fun x H2 ⟨e2, cc, h1, h2⟩ => ?_⟩
      · show i < (strOf s).cps.size
        have := (List.getElem?_eq_some_iff.mp e).1
        simpa using this
      · subst e2
        subst h2
        have h1' : s[i]? = some cc := by simpa using h1
        rw [e] at h1'
        cases h1'
        exact ⟨z1, Le.refl z1, w1, .str [a]⟩
  · show (strOf s).cps.size ≤ i
    have hl' : (s.map fun a => D.str [a]).length ≤ i := Nat.le_of_eq hl
    simpa using hl'
def rng (lo k : Int) (n : Nat) : List D := (List.range n).map fun i => .int (lo + (i : Nat) * k)
theorem rng_get {lo k : Int} {n i : Nat} {d : D} (h : (rng lo k n)[i]? = some d) : i < n ∧ d = .int (lo + (i : Nat) * k) := by
  unfold rng at h
  rw [List.getElem?_map] at h
  by_cases hi : i < n
  · rw [List.getElem?_range hi] at h
    cases h
    exact ⟨hi, rfl⟩
  · rw [List.getElem?_eq_none (by simpa using hi)] at h
    cases h
theorem tells_rng {lo : Int} {n : Nat} : Tells c T z (Itr lo n) (still (rng lo 1 n)) := by
  intro i z1 st1 H1 l w1 _
  refine ⟨fun d hd => ?_, fun hl => ?_⟩
  · obtain ⟨h1, rfl⟩ := rng_get hd
    refine ⟨h1, fun x H2 ⟨e, y⟩ => ?_⟩
    subst e y
    rw [Int.mul_one]
    exact ⟨z1, Le.refl z1, w1, .int _⟩
  · have hl' : (rng lo 1 n).length ≤ i := Nat.le_of_eq hl
    unfold rng at hl'
    show n ≤ i
    simpa using hl'
theorem tells_rngC {lo k : Int} {n : Nat} : Tells c T z (Itc lo k n) (still (rng lo k n)) := by
  intro i z1 st1 H1 l w1 _
  refine ⟨fun d hd => ?_, fun hl => ?_⟩
  · obtain ⟨h1, rfl⟩ := rng_get hd
    refine ⟨h1, fun x H2 ⟨e, y⟩ => ?_⟩
    subst e y
    exact ⟨z1, Le.refl z1, w1, .int _⟩
  · have hl' : (rng lo k n).length ≤ i := Nat.le_of_eq hl
    unfold rng at hl'
    show n ≤ i
    simpa using hl'
end
/-! ### values -/
def itemsD (st : Store) : D → Option Itm
  | .tup ds => some (still ds)
  | .lst ds => some (still ds)
  | .scr ns => some (still (ns.map .int))
  | .str s => some (still (s.map fun a => .str [a]))
  | .ref n => match st[n]? with
    | some (.lst ds) => some ⟨ds, fun st => st[n]? = some (.lst ds)⟩
    | _ => none
  | _ => none
def iVal (a : ME) : MI := fun ρ st => (a ρ st).bind fun d st => ofO (itemsD st d) st
theorem imp_PI {X : Cx} {tg e : PySem.Expr} {t t' : TI} (h : PI X tg e t) (k : ∀ σ H R, t' σ H R → t σ H R) : PI X tg e t' := ⟨fun pins s σ H R I q => h.run pins s σ H R I (k _ _ _ q)⟩
/-- a reading whose first value decides -/
theorem lst_walk {c : Cc} {T : List (Addr × Str)} {z : Zw} {st : Store} {H : Hp} {v : V} {d : D} {it : Itm} {n : Unit} (w : Wf c T z st H) (r : Rp c z v d) (e : itemsD st d = some it) (h1 : ∀ ds, d ≠ .tup ds) (h2 : ∀ s, d ≠ .str s) :
    ∃ a vs, v = .ref a ∧ SqL c.K H a vs ∧ ∀ z1 st1 H1, Lg z z1 → Wf c T z1 st1 H1 → it.chk st1 → ∃ vs, SqL c.K H1 a vs ∧ Rps c z1 vs it.ds := by
  cases d with
  | tup ds => exact absurd rfl (h1 ds)
  | str s => exact absurd rfl (h2 s)
  | lst ds =>
    cases e
    cases r with
    | lst s1 rs => exact ⟨_, _, rfl, .inl (.inl (w.sub _ _ s1)), fun z1 st1 H1 l w1 _ => ⟨_, .inl (.inl (w1.sub _ _ (l.g _ _ s1))), rs.monoG l⟩⟩
  | scr ns =>
    cases e
    cases r with
    | scr s1 => exact ⟨_, _, rfl, w.seq s1, fun z1 st1 H1 l w1 _ => ⟨_, w1.seq (seqL_mono l.g s1), Rps.ints ns⟩⟩
  | ref n =>
    have e' : (match st[n]? with
      | some (.lst ds) => some (⟨ds, fun st => st[n]? = some (.lst ds)⟩ : Itm)
      | _ => none) = some it := e
    split at e'
    · rename_i ds hk
      cases e'
      cases r with
      | ref e1 =>
        obtain ⟨_, vs, k1, k2⟩ := w.obj _ _ _ e1 hk
        refine ⟨_, vs, rfl, .inl (.inl k1), fun z1 st1 H1 l w1 hc => ?_⟩
        obtain ⟨_, vs', k1', k2'⟩ := w1.obj _ _ _ (l.at e1) hc
        exact ⟨vs', .inl (.inl k1'), k2'⟩
    · cases e'
  | _ => cases e
section
variable {X : Cx} {c : Fc} {T : List (Addr × Str)} {W : WX} {a b d : PySem.Expr} {ma mb md : ME} {mr : MA} {pos : Pos} {m n : MS} {mt : MT} {is : List Nat} {tg : PySem.Expr}
theorem i_val (hK : X.K = c.K) (ha : PD X c T W a ma) : PI X tg a (LI c T W (iVal ma)) := by
  refine ⟨fun pins s σ H R I ⟨z, ρ, st, w, r, q⟩ => ?_⟩
  unfold iVal at q
  cases e : ma ρ st with
  | no => rw [e] at q; exact q.elim
  | er x st' => rw [e] at q; exact (pi_list ha).run pins s σ H R I ⟨z, ρ, st, w, r, by rw [e]; exact q⟩
  | ok dd st' =>
    rw [e] at q
    simp only [bind_ok] at q
    obtain ⟨it, ei, q⟩ := Pst.ofO q
    by_cases ht : ∃ ds, dd = .tup ds
    · obtain ⟨ds, rfl⟩ := ht
      cases ei
      refine (pi_tup ha).run pins s σ H R I ⟨z, ρ, st, w, r, ?_⟩
      rw [e]
      intro z' H' v l w' rv
      cases rv with
      | tup s1 rs => exact ⟨_, rfl, ⟨_, by rw [hK]; exact w'.tup s1⟩, q z' H' _ l w' (tells_tup hK s1 rs)⟩
    · by_cases hs : ∃ x, dd = .str x
      · obtain ⟨x, rfl⟩ := hs
        cases ei
        refine (pi_str ha).run pins s σ H R I ⟨z, ρ, st, w, r, ?_⟩
        rw [e]
        intro z' H' v l w' rv
        cases rv with
        | str => exact ⟨_, rfl, q z' H' _ l w' (tells_str x)⟩
      · refine (pi_list ha).run pins s σ H R I ⟨z, ρ, st, w, r, ?_⟩
        rw [e]
        intro z' H' v l w' rv
        obtain ⟨p, vs, rfl, sq, tl⟩ := lst_walk (n := ()) w' rv ei (fun ds h => ht ⟨ds, h⟩) (fun x h => hs ⟨x, h⟩)
        exact ⟨p, rfl, ⟨vs, by rw [hK]; exact sq⟩, q z' H' _ l w' (tells_lst hK tl)⟩
/-! ### ranges -/
def Rg (i : Int) : Bool := decide (-4611686018427387904 ≤ i) && decide (i < 4611686018427387904)
theorem rg_of {i : Int} (h : Rg i = true) : -(2 ^ 62) ≤ i ∧ i < 2 ^ 62 := by
  unfold Rg at h
  simp only [Bool.and_eq_true, decide_eq_true_eq] at h
  omega
def iRng1 (a : MA) : MI := fun ρ st => (a ρ st).bind fun ds st => match ds with
  | [.int j] => if Rg j then .ok (still (rng 0 1 j.toNat)) st else .no
  | _ => .no
def iRng2 (a : MA) : MI := fun ρ st => (a ρ st).bind fun ds st => match ds with
  | [.int i, .int j] => if Rg i && Rg j then .ok (still (rng i 1 (j - i).toNat)) st else .no
  | _ => .no
def iRng3 (a : MA) : MI := fun ρ st => (a ρ st).bind fun ds st => match ds with
  | [.int i, .int j, .int k] => if Rg i && Rg j && decide (k = -1) then .ok (still (rng i (-1) (i - j).toNat)) st else .no
  | _ => .no
theorem i_rng1 (hm : X.mg "range" = none) {p : Pos} (ha : PA X [a] (LA c T W mr)) (hg : Gl X "range" := by rfl) (hs : starEach [a] X.env = [(false, eval a X.env)] := by rfl) : PI X tg (.Call (.Name "range" p) [a] [] pos) (LI c T W (Bw.iRng1 mr)) :=
  imp_PI (pi_range1 hg hm ha hs) fun σ H R ⟨z, ρ, st, w, r, q⟩ => ⟨z, ρ, st, w, r, (Pst.bnd q).imp fun xs H1 ⟨z1, st1, ds, l1, w1, rs, q1⟩ => by
    split at q1
    · split at q1
      · rename_i hr
        obtain ⟨h1, h2⟩ := rg_of hr
        cases rs with
        | cons ra rr =>
          cases rr
          cases ra
          exact ⟨_, rfl, h1, h2, q1 z1 H1 _ (Le.refl z1) w1 tells_rng⟩
      · exact q1.elim
    · exact q1.elim⟩
theorem i_rng2 (hm : X.mg "range" = none) {p : Pos} (ha : PA X [a, b] (LA c T W mr)) (hg : Gl X "range" := by rfl) (hs : starEach [a, b] X.env = [(false, eval a X.env), (false, eval b X.env)] := by rfl) (hs2 : starEach [b] X.env = [(false, eval b X.env)] := by rfl) : PI X tg (.Call (.Name "range" p) [a, b] [] pos) (LI c T W (Bw.iRng2 mr)) :=
  imp_PI (pi_range2 hg hm ha hs hs2) fun σ H R ⟨z, ρ, st, w, r, q⟩ => ⟨z, ρ, st, w, r, (Pst.bnd q).imp fun xs H1 ⟨z1, st1, ds, l1, w1, rs, q1⟩ => by
    split at q1
    · split at q1
      · rename_i hr
        rw [Bool.and_eq_true] at hr
        obtain ⟨h1, h2⟩ := rg_of hr.1
        obtain ⟨h3, h4⟩ := rg_of hr.2
        cases rs with
        | cons ra rr =>
          cases rr with
          | cons rb rr =>
            cases rr
            cases ra
            cases rb
            exact ⟨_, _, rfl, ⟨h1, h2, h3, h4⟩, q1 z1 H1 _ (Le.refl z1) w1 tells_rng⟩
      · exact q1.elim
    · exact q1.elim⟩
theorem i_rng3 (hm : X.mg "range" = none) {p : Pos} (ha : PA X [a, b, d] (LA c T W mr)) (hg : Gl X "range" := by rfl) (hs : starEach [a, b, d] X.env = (false, eval a X.env) :: starEach [b, d] X.env := by rfl) (hpl : (backTo pos (starEach [b, d] X.env)).any (·.1) = false := by rfl) :
    PI X tg (.Call (.Name "range" p) [a, b, d] [] pos) (LI c T W (Bw.iRng3 mr)) :=
  imp_PI (pi_range3 hg hm ha hs hpl) fun σ H R ⟨z, ρ, st, w, r, q⟩ => ⟨z, ρ, st, w, r, (Pst.bnd q).imp fun xs H1 ⟨z1, st1, ds, l1, w1, rs, q1⟩ => by
    split at q1
    · split at q1
      · rename_i hr
        rw [Bool.and_eq_true, Bool.and_eq_true, decide_eq_true_eq] at hr
        obtain ⟨⟨h1, h2⟩, h3⟩ := hr
        subst h3
        obtain ⟨h1, h2'⟩ := rg_of h1
        obtain ⟨h3, h4⟩ := rg_of h2
        cases rs with
        | cons ra rr =>
          cases rr with
          | cons rb rr =>
            cases rr with
            | cons rc rr =>
              cases rr
              cases ra
              cases rb
              cases rc
              exact ⟨_, _, _, _, rfl, RgC.neg h1 h2' h3 h4, q1 z1 H1 _ (Le.refl z1) w1 tells_rngC⟩
      · exact q1.elim
    · exact q1.elim⟩
/-! ### comprehensions -/
theorem e_lc {elt iter : PySem.Expr} {ifs : List PySem.Expr} {scope : Scope} {own : List (Str × Nat)} {mi : MI} {g : MG} {me : ME} (hc : X.calm = true) (hN : X.N.Nodup) (hi : PI X tg iter (LI c T W mi)) (ok : BlkOk X.N X.env.scope scope own)
    (hg : ∀ (s : Shared) (H : Hp) (C : Addr) (cl : List (Str × Addr)) (fp : List Addr), PG (X.blk s H scope (compEnvC scope cl C X.env) fp) tg (LG c T is g)) (ht : ∀ (s : Shared) (H : Hp) (C : Addr) (cl : List (Str × Addr)) (fp : List Addr), PTs (X.blk s H scope (compEnvC scope cl C X.env) fp) ifs (LT c T W0 mt))
    (he : ∀ (s : Shared) (H : Hp) (C : Addr) (cl : List (Str × Addr)) (fp : List Addr), PD (X.blk s H scope (compEnvC scope cl C X.env) fp) c T W0 elt me) (hio : ∀ i ∈ is, i ∈ own.map (·.2) := by decide) (hs : ∀ x, foldedSetIterable iter X.env x = pure x := by intro _; rfl) :
    PD X c T W (.ListComp elt [⟨tg, iter, ifs, 0⟩] scope pos) (mLc (own.map (·.2)) mi g mt me) :=
  imp_PE (pe_lc hc hN hi ok hg ht he hs) fun σ H Q q => lc_ok hio q
theorem s_setLc (i : Nat) {y : Str} {py spos : Pos} {elt iter : PySem.Expr} {ifs : List PySem.Expr} {scope : Scope} {own : List (Str × Nat)} {mi : MI} {g : MG} {me : ME} (hc : X.calm = true) (hN : X.N.Nodup) (hsw : swapsWith (.ListComp elt [⟨tg, iter, ifs, 0⟩] scope pos) (some (.Name y py)) spos.line X.env = pure true)
    (hi : PI X tg iter (LI c T W mi)) (ok : BlkOk X.N X.env.scope scope own)
    (hg : ∀ (s : Shared) (H : Hp) (C : Addr) (cl : List (Str × Addr)) (fp : List Addr), PG (X.blk s H scope (compEnvC scope cl C X.env) fp) tg (LG c T is g)) (ht : ∀ (s : Shared) (H : Hp) (C : Addr) (cl : List (Str × Addr)) (fp : List Addr), PTs (X.blk s H scope (compEnvC scope cl C X.env) fp) ifs (LT c T W0 mt))
    (he : ∀ (s : Shared) (H : Hp) (C : Addr) (cl : List (Str × Addr)) (fp : List Addr), PD (X.blk s H scope (compEnvC scope cl C X.env) fp) c T W0 elt me) (hy : X.N[i]? = some y := by rfl) (hyl : X.env.scope.names.lookup y = some .local := by rfl)
    (hio : ∀ i ∈ is, i ∈ own.map (·.2) := by decide) (hs : ∀ x, foldedSetIterable iter X.env x = pure x := by intro _; rfl) :
    SD X c T W (.Assign [.Name y py] (.ListComp elt [⟨tg, iter, ifs, 0⟩] scope pos) spos) (sAsg (mLc (own.map (·.2)) mi g mt me) (gN i)) :=
  imp_PS (ps_setLc hc hN hy hyl hsw hi ok hg ht he hs) fun D σ H ⟨z, ρ, st, w, r, q⟩ => lc_ok hio ⟨z, ρ, st, w, r, (PstS.bnd q r).imp fun x H1 ⟨z1, st1, dx, l1, w1, rx, q1⟩ => q1 z1 H1 _ (Le.refl z1) w1 ((r.mono l1).set (.d rx) i)⟩
end
end Bw
set_option linter.all false
set_option autoImplicit false
set_option maxRecDepth 100000
/-! enumerate, zip, reversed. -/
namespace PySem
open Sem (wp)
set_option maxHeartbeats 1000000 in
/-- enumerate(v) makes its two cells, v told by what begins -/
theorem bw_enum_new {v : Value} {o : Obj} {H : Heap → Prop} (B : Begins v o H) :
    Meets (Builtin.«enumerate.__new__» ⟨[.type "enumerate", v], []⟩) (fun _ R s => H s.heap ∧
      R (.ok (.ret (.ref (s.heap.push o).objs.size))) { s with heap := (s.heap.push o).push { cls := .type "enumerate", data := .fields #[.none, .bool false, .ref s.heap.objs.size, rawInt 0, .none, .none] } }) :=
  .of_wp fun prog w A R s ⟨hH, hR⟩ => by
    obtain ⟨hp, gg, dd, tk, os⟩ := s
    have subs := sub_enumerate
    have begun : ∀ {A' : Around} {E' : Value → Shared → Prop} {Q' : Value → Shared → Prop}, Q' (.ref hp.objs.size) ⟨hp.push o, gg, dd, tk, os⟩ → wpAny (model prog w) A' (pyIter v) Q' E' ⟨hp, gg, dd, tk, os⟩ :=
      fun q => B.iter prog w _ _ ⟨hp, gg, dd, tk, os⟩ _ hH q
    wp_walk using begun
    refine wpAny_stack_any fun st => wpAny_pure ?_
    split
    · rename_i c _ _ _ _ _
      cases (c == Value.type "enumerate")
      · wp_walk using begun
        exact ⟨_, rfl, hR⟩
      · wp_walk using begun
        exact ⟨_, rfl, hR⟩
    · wp_walk using begun
      exact ⟨_, rfl, hR⟩
section
variable {prog : Program} {w : World} {A : Around} {E : Value → Shared → Prop} {s : Shared}
theorem bw_call_enum {v : Value} {o : Obj} {H : Heap → Prop} {Q : Value → Shared → Prop} (B : Begins v o H) (h1 : H s.heap)
    (hQ : ∀ h', IsEnum h' (s.heap.objs.size + 1) s.heap.objs.size 0 .none → h'.get? s.heap.objs.size = some o → (∀ b u, s.heap.get? b = some u → h'.get? b = some u) → Q (.ref (s.heap.objs.size + 1)) { s with heap := h' }) :
    wpAny (model prog w) A (call (.type "enumerate") [v]) Q E s := by
  refine callType_new F.called_enumerate (by decide) (F.typeCall_enumerate_1 _) (F.newCall_enumerate_1 _) (fun obj => F.args_object_init_2 obj _) F.entry_enumerate_new (bw_enum_new B) ⟨h1, ?_⟩
  have sz : (s.heap.push o).objs.size = s.heap.objs.size + 1 := Heap.size_push ..
  show _ ∧ _
  rw [sz]
  have en : IsEnum ((s.heap.push o).push { cls := .type "enumerate", data := .fields #[.none, .bool false, .ref s.heap.objs.size, rawInt 0, .none, .none] }) (s.heap.objs.size + 1) s.heap.objs.size 0 .none := by
    have x := Heap.get?_push_size (s.heap.push o) (o := { cls := .type "enumerate", data := .fields #[.none, .bool false, .ref s.heap.objs.size, rawInt 0, .none, .none] }) rfl
    rw [sz] at x
    exact x
  exact ⟨⟨_, en, rfl⟩, hQ _ en (Heap.get?_push_of_some _ (Heap.get?_push_size _ B.free)) fun b u e => Heap.get?_push_of_some _ (Heap.get?_push_of_some _ e)⟩
end
end PySem
namespace Bw
open PySem PySem.Spec PyProof.Rows L2
/-- numbered items, each in a new pair; f i: the i-th item -/
def Itn (n : Hp → Nat → Prop) (f : Hp → Nat → V → Prop) : It :=
  ⟨fun i H => ∃ x, f H i x, fun i H v H' => ∃ p x, v = .ref p ∧ H p = none ∧ H' = upd H p (.tup [.int (i : Nat), x]) ∧ f H i x, fun i H => n H i⟩
/-- enumerate's iterator over something drawn -/
theorem turn_numbered {P : Program} {w : World} {K : PySem.W.Frag} {elts : List PySem.Expr} {kk : Nat} {tpos : Pos} {e it : Addr} {nn : Hp → Nat → Prop} {f : Hp → Nat → V → Prop} {St : Nat → Heap → Prop}
    (hst : ∀ i h, St i h → ∃ o, h.get? it = some o ∧ ∀ v, o.data ≠ .cell v) (hk : ∀ i h h', St i h → (∀ o, h.get? it = some o → h'.get? it = some o) → St i h') (hne : e ≠ it)
    (itm : ∀ (X : Cx), X.prog = P → X.w = w → X.K = K → ∀ (i : Nat) (pins : List (Addr × Obj)) (s : Shared) (σ : L2.St) (H : Hp) (x : V), L2.Inv X pins σ H s → f H i x → ∀ (A : Around), A.handled = none → St i s.heap →
      ∃ (fp : List Addr) (n : Nat) (Pd : Nat → Value → Prop) (Sd : Nat → Heap → Prop), e ∉ fp ∧ i < n ∧ Draws P w A.in1 it fp n Pd Sd ∧ Sd i s.heap ∧ (∀ u, Pd i u → RelV x u) ∧ ∀ h', Sd (i + 1) h' → St (i + 1) h')
    (fin : ∀ (X : Cx), X.prog = P → X.w = w → X.K = K → ∀ (i : Nat) (pins : List (Addr × Obj)) (s : Shared) (σ : L2.St) (H : Hp), L2.Inv X pins σ H s → nn H i → ∀ (A : Around), A.handled = none → St i s.heap →
      ∃ (fp : List Addr) (Pd : Nat → Value → Prop) (Sd : Nat → Heap → Prop) (n : Nat), Draws P w A.in1 it fp n Pd Sd ∧ Sd n s.heap) :
    Turn P w K (.Tuple elts kk tpos) (Itn nn f) [e, it] e (fun i h => (∃ old, IsEnum h e it ((i : Nat) : Int) old) ∧ St i h) where
  mem := by simp
  obj := fun i h q b hb => by
    obtain ⟨⟨old, he⟩, hs⟩ := q
    have hb' : b = e ∨ b = it := by simpa using hb
    rcases hb' with rfl | rfl
    · exact ⟨_, he, fun v q => nomatch q⟩
    · exact hst i h hs
  keep := fun i h h' q k => ⟨let ⟨old, he⟩ := q.1; ⟨old, k e (by simp) _ he⟩, hk i h h' q.2 fun o x => k it (by simp) o x⟩
  item := by
    intro X hP hw hK hc i pins s σ H E I hf q hg
    subst hP hw hK
    obtain ⟨⟨old, he⟩, hs⟩ := q
    obtain ⟨x, hx⟩ := hg
    obtain ⟨fp, n, Pd, Sd, hef, hlt, Dr, sd, rel, nxt⟩ := itm X rfl rfl rfl i pins s σ H x I hx X.A (I.ok.hd hc) hs
    have hel : e < s.heap.objs.size := Heap.lt_size he
    have hil : it < s.heap.objs.size := by obtain ⟨o, z, _⟩ := hst i _ hs; exact Heap.lt_size z
    refine wpAny_pyNext_enum_itemD Dr he sd hlt hne hef fun u h' tk hPu ho sd' hT hsz hkp => ?_
    refine ⟨_, rfl, wpAny_letOwnedTupleGo_enum (s := { s with heap := h', toks := tk + 1 }) ho fun h'' he' sb => ?_⟩
    have hT2 : h''.get? s.heap.objs.size = some { cls := .type "tuple", data := .seq #[.int i tk, u] } := (sb.2 _ (Nat.ne_of_gt hel)).trans hT
    have new : ObjOk X.prog X.w (upd H s.heap.objs.size (.tup [.int (i : Nat), x])) h'' s.heap.objs.size (.tup [.int (i : Nat), x]) :=
      ⟨by show 2 ≤ sizeLine; decide, [.int i tk, u], .cons ⟨_, rfl⟩ (.cons (rel u hPu) .nil), ⟨_, hT2, rfl, _, rfl⟩⟩
    have I1 : L2.Inv X pins σ (upd H s.heap.objs.size (.tup [.int (i : Nat), x])) { s with heap := h'', toks := tk + 1 } :=
      I.turnedNew (ch := [e, it]) (fun b ob hb q => (sb.2 b (fun z => hb (by simp [z]))).trans (hkp b ob (fun z => hb (by simp [z])) (fun z => hb (by simp [z])) q)) hf (Nat.le_refl _) new
    refine ⟨.ref s.heap.objs.size, _, I1, rfl, ⟨_, x, rfl, I.hok.fresh (Nat.le_refl _), rfl, hx⟩, ⟨⟨u, ?_⟩, ?_⟩, fun b hb => ?_⟩
    · have e1 : ((i + 1 : Nat) : Int) = (i : Int) + 1 := by omega
      rw [e1]
      exact he'
    · exact hk _ _ _ (nxt h' sd') fun o z => (sb.2 it (Ne.symm hne)).trans z
    · have hb' : b < s.heap.objs.size := by
        have e' : b = e ∨ b = it := by simpa using hb
        rcases e' with z | z
        · rw [z]; exact hel
        · rw [z]; exact hil
      rw [upd_ne (Nat.ne_of_lt hb')]
      exact (hf b hb).1
  done := by
    intro X hP hw hK hc i pins s σ H E I hf q hg
    subst hP hw hK
    obtain ⟨⟨old, he⟩, hs⟩ := q
    obtain ⟨f0, f1, f2, f3, f4, f5⟩ := hf it (by simp)
    obtain ⟨fp, Pd, Sd, n, Dr, sd⟩ := fin X rfl rfl rfl i pins s σ H I hg X.A (I.ok.hd hc) hs
    exact wpAny_pyNext_enum_endD Dr he sd fun h' eb => ⟨rfl, I.turned (t' := s.toks) (fun b o hb q => eb b o hb q) f0 f1 f3 f4 f5⟩
  self := fun A i s Q E q h => let ⟨⟨_, he⟩, _⟩ := q; wpAny_pyIter_enum he h

def numb : Nat → List D → List D
  | _, [] => []
  | k, d :: ds => .tup [.int k, d] :: numb (k + 1) ds
theorem numb_len : ∀ (ds : List D) (k : Nat), (numb k ds).length = ds.length
  | [], _ => rfl
  | _ :: ds, k => by
    show (numb (k + 1) ds).length + 1 = _
    rw [numb_len ds] <;> rfl
theorem numb_get : ∀ (ds : List D) (k i : Nat), (numb k ds)[i]? = (ds[i]?).map fun d => .tup [.int ((k + i : Nat)), d]
  | [], _, _ => by simp [numb]
  | d :: ds, k, 0 => by simp [numb]
  | d :: ds, k, i + 1 => by
    show (numb (k + 1) ds)[i]? = (ds[i]?).map _
    rw [numb_get ds]
    have e : k + 1 + i = k + (i + 1) := by omega
    rw [e]
def numbI (it : Itm) : Itm := ⟨numb 0 it.ds, it.chk⟩
section
variable {c : Cc} {T : List (Addr × Str)} {z : Zw} {K : PySem.W.Frag}
theorem tells_num {it : Itm} {J : It} (h : ∀ (i : Nat) (z1 : Zw) (st1 : Store) (H1 : Hp), Lg z z1 → Wf c T z1 st1 H1 → it.chk st1 →
    (∀ d, it.ds[i]? = some d → J.go i H1 ∧ ∀ v H2, J.yld i H1 v H2 → ∃ p x, v = .ref p ∧ H1 p = none ∧ H2 = upd H1 p (.tup [.int (i : Nat), x]) ∧ Rp c z1 x d) ∧ (it.ds.length = i → J.stop i H1)) : Tells c T z J (numbI it) := by
  intro i z1 st1 H1 l w1 hk
  obtain ⟨h1, h2⟩ := h i z1 st1 H1 l w1 hk
  refine ⟨fun d hd => ?_, fun hl => h2 (by have hl' : (numb 0 it.ds).length = i := hl; rw [numb_len] at hl'; exact hl')⟩
  have hd' : (numb 0 it.ds)[i]? = some d := hd
  rw [numb_get] at hd'
  cases e : it.ds[i]? with
  | none => rw [e] at hd'; cases hd'
  | some d0 =>
    rw [e, Nat.zero_add] at hd'
    cases hd'
    obtain ⟨go, yl⟩ := h1 d0 e
    refine ⟨go, fun v H2 y => ?_⟩
    obtain ⟨p, x, rfl, hp, rfl, rx⟩ := yl v H2 y
    obtain ⟨l2, w2, r2⟩ := w1.newTup hp (.cons (.int (i : Nat)) (.cons rx .nil))
    exact ⟨_, l2, w2, r2⟩
theorem tells_enumL (hK : K = c.K) {a : Addr} {it : Itm} (hs : ∀ z1 st1 H1, Lg z z1 → Wf c T z1 st1 H1 → it.chk st1 → ∃ vs, SqL c.K H1 a vs ∧ Rps c z1 vs it.ds) : Tells c T z (Ite K a) (numbI it) := by
  subst hK
  refine tells_num fun i z1 st1 H1 l w1 hk => ?_
  obtain ⟨vs, sq, rs⟩ := hs z1 st1 H1 l w1 hk
  refine ⟨fun d hd => ?_, fun hl => ⟨vs, sq, by rw [rs.len]; exact Nat.le_of_eq hl⟩⟩
  obtain ⟨v, hv, rv⟩ := rs.get hd
  refine ⟨⟨vs, v, sq, hv⟩, fun x H2 ⟨p, y, e1, e2, e3, e4⟩ => ?_⟩
  have := e4 vs sq
  rw [hv] at this
  cases this
  exact ⟨p, _, e1, e2, e3, rv⟩
theorem tells_enumT (hK : K = c.K) {a : Addr} {vs : List V} {ds : List D} (s1 : SqT c.K z.G a vs) (rs : Rps c z vs ds) :
    Tells c T z (Itn (fun H i => ∃ xs, SqT K H a xs ∧ xs.length = i) fun H i x => ∃ xs, (SqT K H a xs ∧ xs[i]? = some x) ∧ xs = vs) (numbI (still ds)) := by
  subst hK
  refine tells_num fun i z1 st1 H1 l w1 hk => ?_
  have sq : SqT c.K H1 a vs := w1.tup (seqT_mono l.g s1)
  refine ⟨fun d hd => ?_, fun hl => ⟨vs, sq, rs.len.trans hl⟩⟩
  obtain ⟨v, hv, rv⟩ := rs.get hd
  refine ⟨⟨v, vs, ⟨sq, hv⟩, rfl⟩, fun x H2 ⟨p, y, e1, e2, e3, xs, ⟨_, e4⟩, e5⟩ => ?_⟩
  subst e5
  rw [hv] at e4
  cases e4
  exact ⟨p, _, e1, e2, e3, rv.monoG l⟩
theorem tells_enumS (s : List Nat) : Tells c T z (Itn (fun _ i => (strOf s).cps.size = i) fun _ i x => ∃ k, (strOf s).cps[i]? = some k ∧ x = .str ⟨#[k]⟩) (numbI (still (s.map fun a => .str [a]))) := by
  refine tells_num fun i z1 st1 H1 l w1 hk => ⟨fun d hd => ?_, fun hl => ?_⟩
  · have hd' : (s.map fun a => D.str [a])[i]? = some d := hd
    rw [List.getElem?_map] at hd'
    cases e : s[i]? with
    | none => rw [e] at hd'; cases hd'
    | some a =>
      rw [e] at hd'
      cases hd'
      have e0 : (strOf s).cps[i]? = some a := by simpa using e
      refine ⟨⟨_, a, e0, rfl⟩, fun x H2 ⟨p, y, e1, e2, e3, k, e4, e5⟩ => ?_⟩
      rw [e0] at e4
      cases e4
      exact ⟨p, y, e1, e2, e3, by rw [e5]; exact .str [a]⟩
  · show (strOf s).cps.size = i
    have hl' : (s.map fun a => D.str [a]).length = i := hl
    simpa using hl'
end
def iEnum (a : MA) : MI := fun ρ st => (a ρ st).bind fun ds st => match ds with
  | [d] => ofO ((itemsD st d).map numbI) st
  | _ => .no
section
variable {X : Cx} {c : Fc} {T : List (Addr × Str)} {W : WX} {a b d : PySem.Expr} {ma mb md : ME} {mr : MA} {pos : Pos} {m n : MS} {mt : MT} {is : List Nat}
theorem i_enum (hK : X.K = c.K) (hm : X.mg "enumerate" = none) {p tpos : Pos} {elts : List PySem.Expr} {kk : Nat} (ha : PA X [a] (LA c T W mr)) (hg : Gl X "enumerate" := by rfl) (hs : starEach [a] X.env = [(false, eval a X.env)] := by rfl) :
    PI X (.Tuple elts kk tpos) (.Call (.Name "enumerate" p) [a] [] pos) (LI c T W (Bw.iEnum mr)) := by
  refine ⟨fun pins s σ H R I ⟨z, ρ, st, w, r, q⟩ => ?_⟩
  unfold Bw.iEnum at q
  cases e : mr ρ st with
  | no => rw [e] at q; exact q.elim
  | er x st' => rw [e] at q; exact (pi_enum hg hm ha hs).run pins s σ H R I ⟨z, ρ, st, w, r, by rw [e]; exact q⟩
  | ok ds st' =>
    rw [e] at q
    simp only [bind_ok] at q
    split at q
    · rename_i dd
      obtain ⟨it, ei, q⟩ := Pst.ofO q
      cases ei0 : itemsD st' dd with
      | none => rw [ei0] at ei; cases ei
      | some it0 =>
        rw [ei0] at ei
        cases ei
        by_cases ht : ∃ ds, dd = .tup ds
        · obtain ⟨ds, rfl⟩ := ht
          cases ei0
          refine Call_ (ld_blt I hg hm boot_enumerate (PyProof.Rows.callWith_type1 (thn (ha.run pos pins s σ H (fun vs H1 => ∃ z1 dvs, Le z z1 ∧ Wf c.toCc T z1 st' H1 ∧ Rps c.toCc z1 vs dvs ∧ dvs = [.tup ds]) I ⟨z, ρ, st, w, r, by rw [e]; exact fun z' H' v l w' rv => ⟨z', _, l, w', rv, rfl⟩⟩) fun us s1 hx => ?_) hs rfl))
          obtain ⟨vs, H1, I1, r1, z1, dvs, l1, w1, rs, rfl⟩ := hx
          cases rs with
          | cons ra rr =>
            cases rr
            cases r1 with
            | cons r0 rr0 =>
              cases rr0
              cases ra with
              | @tup p0 vs0 _ s1' rs' =>
                cases r0
                have sq : SqT X.K H1 p0 vs0 := by rw [hK]; exact w1.tup s1'
                obtain ⟨its, rv, pt, hz⟩ := I1.tuple sq
                have hlt : p0 < s1.heap.objs.size := by obtain ⟨o, ho, _⟩ := id pt; exact Heap.lt_size ho
                refine bw_call_enum (begins_tuple p0 its.toArray) pt fun h' he hit hk => wpAny_pyIter_enum he ?_
                have I2 : L2.Inv X pins σ H1 { s1 with heap := h' } := I1.kept (t' := s1.toks) hk
                refine ⟨s1.heap.objs.size + 1, [s1.heap.objs.size + 1, s1.heap.objs.size], _, _, H1, rfl, I2, turn_numbered (it := s1.heap.objs.size) (nn := fun H i => ∃ xs, SqT X.K H p0 xs ∧ xs.length = i) (f := fun H i x => ∃ xs, (SqT X.K H p0 xs ∧ xs[i]? = some x) ∧ xs = vs0) (St := fun i h => h.IsTupleIter s1.heap.objs.size p0 i) ?_ ?_ (Nat.succ_ne_self _) ?_ ?_, ⟨⟨.none, he⟩, ⟨_, hit, rfl, rfl⟩⟩, fun b hb => ?_, q z1 H1 _ l1 w1 (tells_enumT hK s1' rs')⟩
                · intro i h ⟨o, h1, h2, h3⟩
                  exact ⟨o, h1, fun v q => by rw [h3] at q; cases q⟩
                · intro i h h' ⟨o, h1, h2⟩ k
                  exact ⟨o, k o h1, h2⟩
                · intro X' hP hw hK' i pins' s' σ' H' x I' hx A hA hst
                  obtain ⟨xs, ⟨hq, hx⟩, _⟩ := hx
                  obtain ⟨its', rv', p', _⟩ := I'.tuple (by rw [hK']; exact hq)
                  obtain ⟨u, hu, ru⟩ := rv'.get hx
                  refine ⟨[s1.heap.objs.size, p0], its'.toArray.size, _, _, ?_, ?_, Draws.tuple (A := A.in1) hA s1.heap.objs.size p0 (Nat.ne_of_lt hlt) its'.toArray, ⟨hst, p'⟩, fun u' hu' => ?_, fun h' sd => sd.1⟩
                  · simp only [List.mem_cons, List.not_mem_nil, or_false, not_or]
                    exact ⟨Nat.succ_ne_self _, Nat.ne_of_gt (Nat.lt_succ_of_lt hlt)⟩
                  · rw [List.size_toArray]
                    exact (List.getElem?_eq_some_iff.mp hu).1
                  · have hu2 : its'.toArray[i]? = some u' := hu'
                    rw [List.getElem?_toArray, hu] at hu2
                    cases hu2
                    exact ru
                · intro X' hP hw hK' i pins' s' σ' H' I' hx A hA hst
                  obtain ⟨xs, hq, hl⟩ := hx
                  obtain ⟨its', rv', p', _⟩ := I'.tuple (by rw [hK']; exact hq)
                  refine ⟨[s1.heap.objs.size, p0], _, _, _, Draws.tuple (A := A.in1) hA s1.heap.objs.size p0 (Nat.ne_of_lt hlt) its'.toArray, ⟨?_, p'⟩⟩
                  have e9 : its'.toArray.size = i := by rw [List.size_toArray, ← rv'.length, hl]
                  rw [e9]
                  exact hst
                · have e' : b = s1.heap.objs.size + 1 ∨ b = s1.heap.objs.size := by simpa using hb
                  have hle : s1.heap.objs.size ≤ b := by
                    rcases e' with z | z
                    · rw [z]; exact Nat.le_add_right _ _
                    · rw [z]; exact Nat.le_refl _
                  exact I1.fpOk hle (I1.hok.fresh hle)
        · by_cases hs' : ∃ x, dd = .str x
          · obtain ⟨y, rfl⟩ := hs'
            cases ei0
            refine Call_ (ld_blt I hg hm boot_enumerate (PyProof.Rows.callWith_type1 (thn (ha.run pos pins s σ H (fun vs H1 => ∃ z1 dvs, Le z z1 ∧ Wf c.toCc T z1 st' H1 ∧ Rps c.toCc z1 vs dvs ∧ dvs = [.str y]) I ⟨z, ρ, st, w, r, by rw [e]; exact fun z' H' v l w' rv => ⟨z', _, l, w', rv, rfl⟩⟩) fun us s1 hx => ?_) hs rfl))
            obtain ⟨vs, H1, I1, r1, z1, dvs, l1, w1, rs, rfl⟩ := hx
            cases rs with
            | cons ra rr =>
              cases rr
              cases r1 with
              | cons r0 rr0 =>
                cases rr0
                cases ra
                obtain ⟨t, rfl⟩ := r0
                refine bw_call_enum (begins_text (strOf y) t) trivial fun h' he hit hk => wpAny_pyIter_enum he ?_
                have I2 : L2.Inv X pins σ H1 { s1 with heap := h' } := I1.kept (t' := s1.toks) hk
                refine ⟨s1.heap.objs.size + 1, [s1.heap.objs.size + 1, s1.heap.objs.size], _, _, H1, rfl, I2, turn_numbered (it := s1.heap.objs.size) (nn := fun _ i => (strOf y).cps.size = i) (f := fun _ i x => ∃ k, (strOf y).cps[i]? = some k ∧ x = .str ⟨#[k]⟩) (St := fun i h => h.IsStrIter s1.heap.objs.size (strIterType (strOf y)) (strOf y) t i) ?_ ?_ (Nat.succ_ne_self _) ?_ ?_, ⟨⟨.none, he⟩, ⟨_, hit, rfl, rfl⟩⟩, fun b hb => ?_, q z1 H1 _ l1 w1 (tells_enumS y)⟩
                · intro i h ⟨o, h1, h2, h3⟩
                  exact ⟨o, h1, fun v q => by rw [h3] at q; cases q⟩
                · intro i h h' ⟨o, h1, h2⟩ k
                  exact ⟨o, k o h1, h2⟩
                · intro X' hP hw hK' i pins' s' σ' H' x I' hx A hA hst
                  obtain ⟨k, hk, hx⟩ := hx
                  refine ⟨[s1.heap.objs.size], (strOf y).cps.size, _, _, by simp, (Array.getElem?_eq_some_iff.mp hk).1, Draws.text (A := A.in1) hA s1.heap.objs.size (strOf y) t, hst, fun u' hu' => ?_, fun h' sd => sd⟩
                  obtain ⟨k', t', hk', e'⟩ := hu'
                  rw [hk] at hk'
                  cases hk'
                  rw [hx, e']
                  exact ⟨t', rfl⟩
                · intro X' hP hw hK' i pins' s' σ' H' I' hx A hA hst
                  exact ⟨[s1.heap.objs.size], _, _, _, Draws.text (A := A.in1) hA s1.heap.objs.size (strOf y) t, by rw [hx]; exact hst⟩
                · have e' : b = s1.heap.objs.size + 1 ∨ b = s1.heap.objs.size := by simpa using hb
                  have hle : s1.heap.objs.size ≤ b := by
                    rcases e' with z | z
                    · rw [z]; exact Nat.le_add_right _ _
                    · rw [z]; exact Nat.le_refl _
                  exact I1.fpOk hle (I1.hok.fresh hle)
          · refine (pi_enum hg hm ha hs).run pins s σ H R I ⟨z, ρ, st, w, r, ?_⟩
            rw [e]
            intro z' H' v l w' rv
            cases rv with
            | cons ra rr =>
              cases rr
              obtain ⟨p0, vs, rfl, sq, tl⟩ := lst_walk (n := ()) w' ra ei0 (fun ds h => ht ⟨ds, h⟩) (fun x h => hs' ⟨x, h⟩)
              exact ⟨p0, vs, rfl, by rw [hK]; exact sq, q z' H' _ l w' (tells_enumL hK tl)⟩
    · exact q.elim
end
end Bw
set_option linter.all false
set_option autoImplicit false
set_option maxRecDepth 100000
/-! zip. -/
namespace Bw
open PySem PySem.Spec PyProof.Rows L2
def zipD (xs ys : List D) : List D := (xs.zip ys).map fun p => .tup [p.1, p.2]
theorem zipD_get {xs ys : List D} {i : Nat} {d : D} (h : (zipD xs ys)[i]? = some d) : ∃ x y, xs[i]? = some x ∧ ys[i]? = some y ∧ d = .tup [x, y] := by
  unfold zipD at h
  rw [List.getElem?_map] at h
  cases e : (xs.zip ys)[i]? with
  | none => rw [e] at h; cases h
  | some p =>
    rw [e] at h
    cases h
    rw [List.getElem?_zip_eq_some] at e
    exact ⟨p.1, p.2, e.1, e.2, rfl⟩
theorem zipD_len (xs ys : List D) : (zipD xs ys).length = min xs.length ys.length := by
  unfold zipD
  rw [List.length_map, List.length_zip]
def isTupD : D → Bool
  | .tup _ => true
  | _ => false
def isStrD : D → Bool
  | .str _ => true
  | _ => false
def zipI (st : Store) (x y : D) : Option Itm :=
  if isTupD x == isTupD y && !isStrD x && !isStrD y then match itemsD st x, itemsD st y with
    | some a, some b => some ⟨zipD a.ds b.ds, fun st => a.chk st ∧ b.chk st⟩
    | _, _ => none
  else none
def iZip (a : MA) : MI := fun ρ st => (a ρ st).bind fun ds st => match ds with
  | [x, y] => ofO (zipI st x y) st
  | _ => .no
section
variable {c : Cc} {T : List (Addr × Str)} {z : Zw} {K : PySem.W.Frag}
theorem tells_zipL (hK : K = c.K) {a b : Addr} {xs ys : Itm} (hx : ∀ z1 st1 H1, Lg z z1 → Wf c T z1 st1 H1 → xs.chk st1 → ∃ vs, SqL c.K H1 a vs ∧ Rps c z1 vs xs.ds) (hy : ∀ z1 st1 H1, Lg z z1 → Wf c T z1 st1 H1 → ys.chk st1 → ∃ vs, SqL c.K H1 b vs ∧ Rps c z1 vs ys.ds) :
    Tells c T z (Itz K a b) ⟨zipD xs.ds ys.ds, fun st => xs.chk st ∧ ys.chk st⟩ := by
  subst hK
  intro i z1 st1 H1 l w1 hk
  obtain ⟨vs, sq, rs⟩ := hx z1 st1 H1 l w1 hk.1
  obtain ⟨ws, sq2, rs2⟩ := hy z1 st1 H1 l w1 hk.2
  refine ⟨fun d hd => ?_, fun hl => ⟨vs, ws, sq, sq2, ?_⟩⟩
  · obtain ⟨x, y, hx, hy, rfl⟩ := zipD_get hd
    obtain ⟨v, hv, rv⟩ := rs.get hx
    obtain ⟨u, hu, ru⟩ := rs2.get hy
    refine ⟨⟨vs, ws, v, u, sq, sq2, hv, hu⟩, fun k H2 ⟨p, x', y', e1, e2, e3, e4, e5⟩ => ?_⟩
    have q1 := e4 vs sq
    have q2 := e5 ws sq2
    rw [hv] at q1
    rw [hu] at q2
    cases q1
    cases q2
    subst e1 e3
    obtain ⟨l2, w2, r2⟩ := w1.newTup e2 (.cons rv (.cons ru .nil))
    exact ⟨_, l2, w2, r2⟩
  · have hl' : (zipD xs.ds ys.ds).length = i := hl
    rw [zipD_len] at hl'
    have := rs.len
    have := rs2.len
    omega
theorem tells_zipT (hK : K = c.K) {a b : Addr} {vs ws : List V} {xs ys : List D} (s1 : SqT c.K z.G a vs) (r1 : Rps c z vs xs) (s2 : SqT c.K z.G b ws) (r2 : Rps c z ws ys) : Tells c T z (RZ.ItzT K a b) ⟨zipD xs ys, fun st => True ∧ True⟩ := by
  subst hK
  intro i z1 st1 H1 l w1 hk
  have sq : SqT c.K H1 a vs := w1.tup (seqT_mono l.g s1)
  have sq2 : SqT c.K H1 b ws := w1.tup (seqT_mono l.g s2)
  refine ⟨fun d hd => ?_, fun hl => ⟨vs, ws, sq, sq2, ?_⟩⟩
  · obtain ⟨x, y, hx, hy, rfl⟩ := zipD_get hd
    obtain ⟨v, hv, rv⟩ := r1.get hx
    obtain ⟨u, hu, ru⟩ := r2.get hy
    refine ⟨⟨vs, ws, v, u, sq, sq2, hv, hu⟩, fun k H2 ⟨p, x', y', e1, e2, e3, e4, e5⟩ => ?_⟩
    have q1 := e4 vs sq
    have q2 := e5 ws sq2
    rw [hv] at q1
    rw [hu] at q2
    cases q1
    cases q2
    subst e1 e3
    obtain ⟨l2, w2, r3⟩ := w1.newTup e2 (.cons (rv.monoG l) (.cons (ru.monoG l) .nil))
    exact ⟨_, l2, w2, r3⟩
  · have hl' : (zipD xs ys).length = i := hl
    rw [zipD_len] at hl'
    have := r1.len
    have := r2.len
    omega
end
section
variable {X : Cx} {c : Fc} {T : List (Addr × Str)} {W : WX} {a b d : PySem.Expr} {ma mb md : ME} {mr : MA} {pos : Pos} {m n : MS} {mt : MT} {is : List Nat}
theorem i_zip (hK : X.K = c.K) (hm : X.mg "zip" = none) {p tpos : Pos} {elts : List PySem.Expr} {kk : Nat} (ha : PA X [a, b] (LA c T W mr)) (hg : Gl X "zip" := by rfl)
    (hs : starEach [a, b] X.env = (false, eval a X.env) :: starEach [b] X.env := by rfl) (hpl : (backTo pos (starEach [b] X.env)).any (·.1) = false := by rfl) :
    PI X (.Tuple elts kk tpos) (.Call (.Name "zip" p) [a, b] [] pos) (LI c T W (Bw.iZip mr)) :=
  imp_PI (RZ.pi_zipA hg hm ha hs hpl) fun σ H R ⟨z, ρ, st, w, r, q⟩ => ⟨z, ρ, st, w, r, (Pst.bnd q).imp fun xs H1 ⟨z1, st1, ds, l1, w1, rs, q1⟩ => by
    split at q1
    · rename_i x y
      obtain ⟨it, ei, q2⟩ := Pst.ofO q1
      cases rs with
      | cons ra rr => cases rr with
        | cons rb rr =>
          cases rr
          unfold zipI at ei
          split at ei
          · rename_i hc
            simp only [Bool.and_eq_true, Bool.not_eq_true', beq_iff_eq] at hc
            obtain ⟨⟨h1, h2⟩, h3⟩ := hc
            split at ei
            · rename_i i1 i2 e1 e2
              cases ei
              by_cases ht : isTupD x = true
              · have ht2 : isTupD y = true := by rw [← h1]; exact ht
                cases x <;> try cases ht
                cases y <;> try cases ht2
                cases e1
                cases e2
                cases ra with
                | tup s1 r1 => cases rb with
                  | tup s2 r2 => exact ⟨_, _, _, _, rfl, .inr ⟨by rw [hK]; exact w1.tup s1, by rw [hK]; exact w1.tup s2, q2 z1 H1 _ (Le.refl z1) w1 (tells_zipT hK s1 r1 s2 r2)⟩⟩
              · have ht2 : ¬ isTupD y = true := by rw [← h1]; exact ht
                obtain ⟨p1, vs1, e3, sq1, t1⟩ := lst_walk (n := ()) w1 ra e1 (fun ds h => ht (by rw [h]; rfl)) (fun s h => by rw [h] at h2; cases h2)
                obtain ⟨p2, vs2, e4, sq2, t2⟩ := lst_walk (n := ()) w1 rb e2 (fun ds h => ht2 (by rw [h]; rfl)) (fun s h => by rw [h] at h3; cases h3)
                subst e3 e4
                exact ⟨_, _, vs1, vs2, rfl, .inl ⟨by rw [hK]; exact sq1, by rw [hK]; exact sq2, q2 z1 H1 _ (Le.refl z1) w1 (tells_zipL hK t1 t2)⟩⟩
            · cases ei
          · cases ei
    · exact q1.elim⟩
end
end Bw
set_option linter.all false
set_option autoImplicit false
set_option maxRecDepth 100000
/-! Built-in functions and methods by data. -/
namespace Bw
open PySem PySem.Spec PyProof.Rows L2
/-! ### len, abs, int, str, tuple, list -/
def lenD (st : Store) : D → Option Nat
  | .str s => if Sz s.length then some s.length else none
  | .tup ds => some ds.length
  | .lst ds => some ds.length
  | .scr ns => some ns.length
  | .ref n => match st[n]? with
    | some (.lst ds) => some ds.length
    | _ => none
  | _ => none
def fLen : List D → Store → Option D := fun ds st => match ds with
  | [d] => (lenD st d).map fun n => .int n
  | _ => none
def fAbs : List D → Store → Option D := fun ds _ => match ds with
  | [.int i] => some (.int (if i < 0 then -i else i))
  | _ => none
def fInt : List D → Store → Option D := fun ds _ => match ds with
  | [.int i] => some (.int i)
  | [.bl b] => some (.int (if b then 1 else 0))
  | _ => none
/-- an int's figures -/
def decD (i : Int) : List Nat := (Str.ofString (toString i)).cps.toList
theorem strOf_dec (i : Int) : Str.ofString (toString i) = strOf (decD i) := rfl
def fStr : List D → Store → Option D := fun ds _ => match ds with
  | [.int i] => if i.natAbs.log2 < 1920 then some (.str (decD i)) else none
  | _ => none
/-- the items of a tuple or list -/
def seqD (st : Store) : D → Option (List D)
  | .tup ds => some ds
  | .lst ds => some ds
  | .ref n => match st[n]? with
    | some (.lst ds) => some ds
    | _ => none
  | _ => none
def fTup : List D → Store → Option D := fun ds st => match ds with
  | [d] => (seqD st d).map .tup
  | _ => none
def fLst : List D → Store → Option D := fun ds st => match ds with
  | [d] => (seqD st d).map .lst
  | _ => none
/-! ### isinstance -/
def tyD (st : Store) : D → Option String
  | .non => some "NoneType"
  | .bl _ => some "bool"
  | .int _ => some "int"
  | .str _ => some "str"
  | .tup _ => some "tuple"
  | .lst _ => some "list"
  | .ref n => match st[n]? with
    | some (.lst _) => some "list"
    | _ => none
  | _ => none
def fIsi : List D → Store → Option D := fun ds st => match ds with
  | [d, .ty t] => (tyD st d).bind fun n => (kitB n t).map .bl
  | _ => none
section
variable {X : Cx} {c : Cc} {T : List (Addr × Str)}
theorem seqD_of {z : Zw} {st : Store} {H : Hp} {d : D} {v : V} {ds : List D} (w : Wf c T z st H) (r : Rp c z v d) (e : seqD st d = some ds) :
    ∃ a vs, v = .ref a ∧ Rps c z vs ds ∧ ((SqT c.K H a vs ∧ SqT c.K z.G a vs ∧ d = .tup ds) ∨ SqL c.K H a vs) := by
  unfold seqD at e
  split at e
  · cases e
    cases r with
    | tup s1 rs => exact ⟨_, _, rfl, rs, .inl ⟨w.tup s1, s1, rfl⟩⟩
  · cases e
    cases r with
    | lst s1 rs => exact ⟨_, _, rfl, rs, .inr (.inl (.inl (w.sub _ _ s1)))⟩
  · split at e
    · rename_i hk
      cases e
      cases r with
      | ref e1 =>
        obtain ⟨_, vs, k1, k2⟩ := w.obj _ _ _ e1 hk
        exact ⟨_, vs, rfl, k2, .inr (.inl (.inl k1))⟩
    · cases e
  · cases e
theorem c_len (hK : X.K = c.K) : CallR X (.builtin "len") (rN c T fLen) := by
  obtain ⟨K, mg⟩ := c
  cases hK
  intro pins s σ H xs us Q I r h
  obtain ⟨z, st, ds, d, w, rs, e, q⟩ := h
  unfold fLen at e
  split at e
  · rename_i dd
    cases rs with
    | cons ra rr =>
      cases rr
      cases el : lenD st dd with
      | none => rw [el] at e; cases e
      | some n =>
        rw [el] at e
        cases e
        refine call_len pins s σ H _ us Q I r ⟨_, n, rfl, ?_, q z H _ (Le.refl z) w (.int _)⟩
        unfold lenD at el
        split at el
        · split at el
          · rename_i hz
            cases el
            cases ra
            exact ⟨by rw [strOf_len]; exact sz_of hz, by rw [strOf_len]⟩
          · cases el
        · cases el
          cases ra with
          | tup s1 rs => exact .inr ⟨_, w.tup s1, by rw [rs.len]⟩
        · cases el
          cases ra with
          | lst s1 rs => exact .inl ⟨_, .inl (.inl (w.sub _ _ s1)), by rw [rs.len]⟩
        · cases el
          cases ra with
          | scr s1 => exact .inl ⟨_, w.seq s1, by rw [List.length_map]⟩
        · split at el
          · rename_i hk
            cases el
            cases ra with
            | ref e1 =>
              obtain ⟨_, vs, k1, k2⟩ := w.obj _ _ _ e1 hk
              exact .inl ⟨vs, .inl (.inl k1), by rw [k2.len]⟩
          · cases el
        · cases el
  · cases e
theorem c_abs : CallR X (.builtin "abs") (rN c T fAbs) := by
  intro pins s σ H xs us Q I r h
  obtain ⟨z, st, ds, d, w, rs, e, q⟩ := h
  unfold fAbs at e
  split at e
  · cases e
    cases rs with
    | cons ra rr =>
      cases rr
      cases ra
      exact call_abs pins s σ H _ us Q I r ⟨_, rfl, q z H _ (Le.refl z) w (.int _)⟩
  · cases e
theorem c_int : CallR X (.type "int") (rN c T fInt) := by
  intro pins s σ H xs us Q I r h
  obtain ⟨z, st, ds, d, w, rs, e, q⟩ := h
  unfold fInt at e
  split at e
  · cases e
    cases rs with
    | cons ra rr =>
      cases rr
      cases ra
      exact call_int1 pins s σ H _ us Q I r (.inl ⟨_, rfl, q z H _ (Le.refl z) w (.int _)⟩)
  · cases e
    cases rs with
    | cons ra rr =>
      cases rr
      cases ra
      exact call_int1 pins s σ H _ us Q I r (.inr ⟨_, rfl, q z H _ (Le.refl z) w (.int _)⟩)
  · cases e
theorem c_str : CallR X (.type "str") (rN c T fStr) := by
  intro pins s σ H xs us Q I r h
  obtain ⟨z, st, ds, d, w, rs, e, q⟩ := h
  unfold fStr at e
  split at e
  · split at e
    · rename_i hl
      cases e
      cases rs with
      | cons ra rr =>
        cases rr
        cases ra
        exact call_str_int pins s σ H _ us Q I r ⟨_, rfl, hl, q z H _ (Le.refl z) w (.str (decD _))⟩
    · cases e
  · cases e
theorem c_tup (hK : X.K = c.K) : CallR X (.type "tuple") (rN c T fTup) := by
  obtain ⟨K, mg⟩ := c
  cases hK
  intro pins s σ H xs us Q I r h
  obtain ⟨z, st, ds, d, w, rs, e, q⟩ := h
  unfold fTup at e
  split at e
  · rename_i dd
    cases rs with
    | cons ra rr =>
      cases rr
      cases el : seqD st dd with
      | none => rw [el] at e; cases e
      | some es =>
        rw [el] at e
        cases e
        obtain ⟨a, vs, rfl, rs, h⟩ := seqD_of w ra el
        refine call_tuple_of pins s σ H _ us Q I r ⟨a, vs, rfl, ?_⟩
        rcases h with ⟨h1, h2, _⟩ | h
        · exact .inr ⟨h1, q z H _ (Le.refl z) w (.tup h2 rs)⟩
        · refine .inl ⟨h, fun l hl => ?_⟩
          obtain ⟨l2, w2, r2⟩ := w.newTup hl rs
          exact q _ _ _ l2 w2 r2
  · cases e
theorem c_lst (hK : X.K = c.K) : CallR X (.type "list") (rN c T fLst) := by
  obtain ⟨K, mg⟩ := c
  cases hK
  intro pins s σ H xs us Q I r h
  obtain ⟨z, st, ds, d, w, rs, e, q⟩ := h
  unfold fLst at e
  split at e
  · rename_i dd
    cases rs with
    | cons ra rr =>
      cases rr
      cases el : seqD st dd with
      | none => rw [el] at e; cases e
      | some es =>
        rw [el] at e
        cases e
        obtain ⟨a, vs, rfl, rs, h⟩ := seqD_of w ra el
        refine call_list_of pins s σ H _ us Q I r ⟨a, vs, rfl, ?_, fun l hl => ?_⟩
        · rcases h with ⟨h1, _⟩ | h
          · exact .inr h1
          · exact .inl h
        · obtain ⟨l2, w2, r2⟩ := w.newLst hl rs
          exact q _ _ _ l2 w2 r2
  · cases e
theorem tyD_of {z : Zw} {st : Store} {H : Hp} {d : D} {v : V} {n : String} (w : Wf c T z st H) (r : Rp c z v d) (e : tyD st d = some n) : TyX c.K H v (.type n) := by
  unfold tyD at e
  split at e
  · cases e; cases r; exact .base .non
  · cases e; cases r; exact .base (.bl _)
  · cases e; cases r; exact .base (.int _)
  · cases e; cases r; exact .base (.str _)
  · cases e
    cases r with
    | tup s1 rs =>
      rcases w.tup s1 with (h | ⟨o, h⟩) | ⟨o, its, n, h1, h2, _⟩
      · exact .base (.tup h)
      · exact .fTuple h
      · exact .kTuple h1 h2
  · cases e
    cases r with
    | lst s1 rs => exact .base (.lst (w.sub _ _ s1))
  · split at e
    · rename_i hk
      cases e
      cases r with
      | ref e1 =>
        obtain ⟨_, vs, k1, k2⟩ := w.obj _ _ _ e1 hk
        exact .base (.lst k1)
    · cases e
  · cases e
theorem c_isi (hK : X.K = c.K) : CallR X (.builtin "isinstance") (rN c T fIsi) := by
  obtain ⟨K, mg⟩ := c
  cases hK
  intro pins s σ H xs us Q I r h
  obtain ⟨z, st, ds, d, w, rs, e, q⟩ := h
  unfold fIsi at e
  split at e
  · rename_i dd t
    cases rs with
    | cons ra rr => cases rr with
      | cons rb rr =>
        cases rr
        cases rb
        cases el : tyD st dd with
        | none => rw [el] at e; cases e
        | some n =>
          rw [el] at e
          cases ek : kitB n t with
          | none => simp [ek] at e
          | some b =>
            simp [ek] at e
            subst e
            exact call_isi pins s σ H _ us Q I r ⟨_, _, _, _, b, rfl, .ty t, tyD_of w ra el, kit_ty ek, q z H _ (Le.refl z) w (.bl b)⟩
  · cases e
end
end Bw
set_option linter.all false
set_option autoImplicit false
set_option maxRecDepth 100000
/-! Methods of texts and lists by data. -/
namespace Bw
open PySem PySem.Spec PyProof.Rows L2
def mStr1 (f : List Nat → List D → Store → Option D) (a : ME) (r : MA) : ME := fun ρ st => (a ρ st).bind fun x st => match x with
  | .str s => (r ρ st).bind fun ds st => ofO (f s ds st) st
  | _ => .no
def rS (c : Cc) (T : List (Addr × Str)) (f : List Nat → List D → Store → Option D) : V → List V → Hp → VK → Prop := fun x xs H Q => ∃ z st s ds d, x = .str (strOf s) ∧ Wf c T z st H ∧ Rps c z xs ds ∧ f s ds st = some d ∧
  ∀ z' H' v, Le z z' → Wf c T z' st H' → Rp c z' v d → Q v H'
def joinD (sep : List Nat) : List (List Nat) → List Nat
  | [] => []
  | [x] => x
  | x :: y :: r => x ++ sep ++ joinD sep (y :: r)
def strsD : List D → Option (List (List Nat))
  | [] => some []
  | .str s :: r => (strsD r).map fun l => s :: l
  | _ => none
def fJoin : List Nat → List D → Store → Option D := fun s ds st => match ds with
  | [d] => match (seqD st d).bind strsD with
    | some l => if decide ((l.map (·.length)).sum + l.length * s.length ≤ 16777216) then some (.str (joinD s l)) else none
    | none => none
  | _ => none
/-- cut at each a -/
def splD (a : Nat) : List Nat → List (List Nat)
  | [] => [[]]
  | c :: r => if c = a then [] :: splD a r else match splD a r with
    | w :: ws => (c :: w) :: ws
    | [] => [[c]]
def fSplit : List Nat → List D → Store → Option D := fun s ds _ => match ds with
  | [.str [a]] => if decide (a < 256) && Sz (s.length + 2) then some (.lst ((splD a s).map .str)) else none
  | _ => none
theorem splD_ne (a : Nat) : ∀ l, splD a l ≠ []
  | [] => by simp [splD]
  | c :: r => by
    unfold splD
    split
    · simp
    · split <;> simp
theorem spl_splD (a : Nat) : ∀ (l acc : List Nat), TL.spl [a] 0 acc l = match splD a l with
    | w :: ws => (acc ++ w) :: ws
    | [] => [acc]
  | [], acc => by simp [TL.spl_nil, splD]
  | c :: r, acc => by
    have hp : TL.pre [a] (c :: r) = true ↔ c = a := by
      unfold TL.pre
      show ([c] == [a]) = true ↔ _
      rw [beq_iff_eq]
      exact ⟨fun e => (List.cons.inj e).1, fun e => by rw [e]⟩
    by_cases h : c = a
    · rw [TL.spl_hit (hp.mpr h), splD, if_pos h]
      show acc :: TL.spl [a] 0 [] r = _
      rw [spl_splD a r []]
      have := splD_ne a r
      cases e : splD a r with
      | nil => exact absurd e this
      | cons w ws => simp
    · have hn : TL.pre [a] (c :: r) = false := by
        cases e : TL.pre [a] (c :: r) with
        | false => rfl
        | true => exact absurd (hp.mp e) h
      rw [TL.spl, if_neg (by rw [hn]; decide), spl_splD a r (acc ++ [c]), splD, if_neg h]
      have := splD_ne a r
      cases e : splD a r with
      | nil => exact absurd e this
      | cons w ws => simp
theorem split_ok {s : List Nat} {a : Nat} (ha : a < 256) : Txt.split (strOf s) (strOf [a]) = (splD a s).map strOf := by
  have h := SX.split_S (a := s) (b := [a]) (by simp) (by simpa using ha)
  rw [show Txt.split (strOf s) (strOf [a]) = Txt.split (SX.S s) (SX.S [a]) from rfl, h, spl_splD]
  have := splD_ne a s
  cases e : splD a s with
  | nil => exact absurd e this
  | cons w ws => simp
theorem join_ok (sep : List Nat) : ∀ l : List (List Nat), Txt.join (strOf sep) (l.map strOf) = strOf (joinD sep l) := by
  intro l
  show Builtin.Str.glued (strOf sep) (l.map strOf) = _
  rw [StrLaws.glued_eq_join]
  induction l with
  | nil => rfl
  | cons x r ih =>
    cases r with
    | nil => rfl
    | cons y r =>
      show strOf x ++ strOf sep ++ Str.join (strOf sep) ((y :: r).map strOf) = _
      rw [ih, strOf_app, strOf_app]
      rfl
section
variable {c : Cc} {T : List (Addr × Str)} {z : Zw}
theorem Rps.strs : ∀ {ds : List D} {vs : List V} {l : List (List Nat)}, Rps c z vs ds → strsD ds = some l → vs = (l.map strOf).map V.str
  | [], _, _, .nil, e => by cases e; rfl
  | .str s :: r, _, _, .cons a t, e => by
    cases a
    cases h : strsD r with
    | none => simp [strsD, h] at e
    | some l' =>
      simp [strsD, h] at e
      subst e
      rw [Rps.strs t h]
      rfl
  | .non :: r, _, _, .cons a t, e => by simp [strsD] at e
  | .bl _ :: r, _, _, .cons a t, e => by simp [strsD] at e
  | .int _ :: r, _, _, .cons a t, e => by simp [strsD] at e
  | .tup _ :: r, _, _, .cons a t, e => by simp [strsD] at e
  | .lst _ :: r, _, _, .cons a t, e => by simp [strsD] at e
  | .ref _ :: r, _, _, .cons a t, e => by simp [strsD] at e
  | .fn _ :: r, _, _, .cons a t, e => by simp [strsD] at e
  | .clo _ :: r, _, _, .cons a t, e => by simp [strsD] at e
  | .ty _ :: r, _, _, .cons a t, e => by simp [strsD] at e
  | .scr _ :: r, _, _, .cons a t, e => by simp [strsD] at e
theorem Rps.ofStrs : ∀ l : List (List Nat), Rps c z ((l.map strOf).map V.str) (l.map D.str)
  | [] => .nil
  | s :: l => .cons (.str s) (Rps.ofStrs l)
end
section
variable {X : Cx} {c : Fc} {T : List (Addr × Str)} {W : WX} {o e : PySem.Expr} {es : List PySem.Expr} {mo me : ME} {mr : MA} {pos apos cpos : Pos}
theorem e_mstr {name : Str} {id : String} {f : List Nat → List D → Store → Option D} (slot : Slot "str" name id) (hty : typeOf (.builtin id) = pure (.type "method_descriptor")) (hm : MtR X id (rS c.toCc T f)) (ho : PD X c T W o mo) (ha : PA X (e :: es) (LA c T W mr))
    (hbase : attributeBase o name X.env (eval o X.env) = eval o X.env := by rfl)
    (hfew : ((backTo cpos (starEach (e :: es) X.env)).all (fun x => !x.1) && (backToKw cpos (keywordEach [] X.env)).all (fun x => x.1.isSome)
      && decide ((e :: es).length + ([] : List Keyword).length + (if ([] : List Keyword).isEmpty then 0 else 1) < 30)) = true := by rfl)
    (hline : (apos.endLine == cpos.line) = true := by rfl) (hs : starEach (e :: es) X.env = (false, eval e X.env) :: starEach es X.env := by rfl) (hplain : (backTo cpos (starEach es X.env)).any (·.1) = false := by rfl) :
    PD X c T W (.Call (.Attribute o name apos) (e :: es) [] cpos) (mStr1 f mo mr) :=
  imp_PE (pe_bm F.plainAttrs_str slot hty hm ho ha hbase hfew hline hs hplain) fun σ H Q ⟨z, ρ, st, w, r, q⟩ => ⟨z, ρ, st, w, r, (Pst.bnd q).imp fun x H1 ⟨z1, st1, dx, l1, w1, rx, q1⟩ => by
    split at q1
    · rename_i s
      cases rx
      exact ⟨rfl, z1, ρ, st1, w1, r.mono l1, (Pst.bnd q1).imp fun xs H2 ⟨z2, st2, ds, l2, w2, rs, q2⟩ =>
        let ⟨dd, e, q3⟩ := Pst.ofO q2
        ⟨z2, st2, s, ds, dd, rfl, w2, rs, e, q3⟩⟩
    · exact q1.elim⟩
theorem m_join (hK : X.K = c.K) : MtR X "str.join" (rS c.toCc T fJoin) := by
  intro pins s σ H x xs v us Q I rx rs h
  obtain ⟨z, st, s0, ds, d, rfl, w, rd, e, q⟩ := h
  unfold fJoin at e
  split at e
  · rename_i dd
    split at e
    · rename_i l hl
      split at e
      · rename_i hz
        cases e
        rw [decide_eq_true_eq] at hz
        cases es0 : seqD st dd with
        | none => rw [es0] at hl; cases hl
        | some es1 =>
          rw [es0] at hl
          cases rd with
          | cons ra rr =>
            cases rr
            obtain ⟨a, vs, rfl, rvs, hh⟩ := seqD_of w ra es0
            have ev := rvs.strs hl
            subst ev
            refine mt_join pins s σ H _ _ v us Q I rx rs ⟨_, a, l.map strOf, rfl, rfl, ?_, ?_, ?_⟩
            · rw [hK]
              rcases hh with ⟨h1, _⟩ | h
              · exact .inr h1
              · exact .inl h
            · rw [List.map_map, List.length_map, strOf_len]
              have : (List.map (Str.length ∘ strOf) l) = l.map (·.length) := List.map_congr_left fun y _ => strOf_len y
              show (List.map (Str.length ∘ strOf) l).sum + _ ≤ _
              rw [this]
              exact hz
            · rw [join_ok]
              exact q z H _ (Le.refl z) w (.str _)
      · cases e
    · cases e
  · cases e
theorem m_split : MtR X "str.split" (rS c.toCc T fSplit) := by
  intro pins s σ H x xs v us Q I rx rs h
  obtain ⟨z, st, s0, ds, d, rfl, w, rd, e, q⟩ := h
  unfold fSplit at e
  split at e
  · rename_i a
    split at e
    · rename_i hz
      cases e
      rw [Bool.and_eq_true, decide_eq_true_eq] at hz
      cases rd with
      | cons ra rr =>
        cases rr
        cases ra
        refine mt_split pins s σ H _ _ v us Q I rx rs ⟨_, _, rfl, rfl, rfl, by rw [strOf_len]; exact sz_of hz.2, fun p hp => ?_⟩
        rw [split_ok hz.1]
        obtain ⟨l2, w2, r2⟩ := w.newLst hp (Rps.ofStrs (splD a s0))
        exact q _ _ _ l2 w2 r2
    · cases e
  · cases e
theorem e_join (hK : X.K = c.K) (ho : PD X c T W o mo) (ha : PA X [e] (LA c T W mr)) (hbase : attributeBase o "join" X.env (eval o X.env) = eval o X.env := by rfl)
    (hfew : ((backTo cpos (starEach [e] X.env)).all (fun x => !x.1) && (backToKw cpos (keywordEach [] X.env)).all (fun x => x.1.isSome) && decide ([e].length + ([] : List Keyword).length + (if ([] : List Keyword).isEmpty then 0 else 1) < 30)) = true := by rfl)
    (hline : (apos.endLine == cpos.line) = true := by rfl) (hs : starEach [e] X.env = (false, eval e X.env) :: starEach [] X.env := by rfl) (hplain : (backTo cpos (starEach [] X.env)).any (·.1) = false := by rfl) :
    PD X c T W (.Call (.Attribute o "join" apos) [e] [] cpos) (mStr1 fJoin mo mr) := e_mstr F.slot_str_join F.type_str_join (m_join hK) ho ha hbase hfew hline hs hplain
theorem e_split (ho : PD X c T W o mo) (ha : PA X [e] (LA c T W mr)) (hbase : attributeBase o "split" X.env (eval o X.env) = eval o X.env := by rfl)
    (hfew : ((backTo cpos (starEach [e] X.env)).all (fun x => !x.1) && (backToKw cpos (keywordEach [] X.env)).all (fun x => x.1.isSome) && decide ([e].length + ([] : List Keyword).length + (if ([] : List Keyword).isEmpty then 0 else 1) < 30)) = true := by rfl)
    (hline : (apos.endLine == cpos.line) = true := by rfl) (hs : starEach [e] X.env = (false, eval e X.env) :: starEach [] X.env := by rfl) (hplain : (backTo cpos (starEach [] X.env)).any (·.1) = false := by rfl) :
    PD X c T W (.Call (.Attribute o "split" apos) [e] [] cpos) (mStr1 fSplit mo mr) := e_mstr F.slot_str_split F.type_str_split m_split ho ha hbase hfew hline hs hplain
/-! ### l.append(e) -/
def mApp (a r : ME) : ME := fun ρ st => (a ρ st).bind fun x st => match x with
  | .ref n => match st[n]? with
    | some (.lst _) => (r ρ st).bind fun d st => match st[n]? with
      | some (.lst ds) => if Sz (ds.length + 1) then .ok .non (st.set n (.lst (ds ++ [d]))) else .no
      | _ => .no
    | _ => .no
  | _ => .no
theorem e_app (hK : X.K = c.K) (ho : PD X c T W o mo) (ha : PD X c T W e me) (hbase : attributeBase o "append" X.env (eval o X.env) = eval o X.env := by rfl)
    (hfew : ((backTo cpos (starEach [e] X.env)).all (fun x => !x.1) && (backToKw cpos (keywordEach [] X.env)).all (fun x => x.1.isSome) && decide ([e].length + ([] : List Keyword).length + (if ([] : List Keyword).isEmpty then 0 else 1) < 30)) = true := by rfl)
    (hline : (apos.endLine == cpos.line) = true := by rfl) (hs : starEach [e] X.env = (false, eval e X.env) :: starEach [] X.env := by rfl) (hplain : (backTo cpos (starEach [] X.env)).any (·.1) = false := by rfl) :
    PD X c T W (.Call (.Attribute o "append" apos) [e] [] cpos) (mApp mo me) :=
  imp_PE (pe_bm F.plainAttrs_list F.slot_list_append F.type_list_append mt_append ho (pa_cons ha pa_nil hs) hbase hfew hline hs hplain) fun σ H Q ⟨z, ρ, st, w, r, q⟩ => ⟨z, ρ, st, w, r, (Pst.bnd q).imp fun x H1 ⟨z1, st1, dx, l1, w1, rx, q1⟩ => by
    split at q1
    · rename_i n
      split at q1
      · rename_i ds0 hk0
        cases rx with
        | ref e1 =>
          obtain ⟨_, vs, k1, k2⟩ := w1.obj _ _ _ e1 hk0
          refine ⟨.inl ⟨rfl, vs, .inl (.inl k1)⟩, z1, ρ, st1, w1, r.mono l1, (Pst.bnd q1).imp fun y H2 ⟨z2, st2, dy, l2, w2, ry, q2⟩ => ?_⟩
          split at q2
          · rename_i ds hk
            split at q2
            · rename_i hz
              have e2 := l2.at e1
              obtain ⟨_, ws, k3, k4⟩ := w2.obj _ _ _ e2 hk
              refine ⟨_, ws, y, rfl, rfl, k3, ?_, q2 z2 _ _ (Le.refl z2) (w2.put e2 hk (k4.app (.cons ry .nil))) .non⟩
              have := sz_of hz
              have hl := k4.len
              omega
            · exact q2.elim
          · exact q2.elim
      · exact q1.elim
    · exact q1.elim⟩
/-! ### replace -/
def repD (a : Nat) (y : List Nat) (s : List Nat) : List Nat := s.flatMap fun x => if x = a then y else [x]
def mRep (a : Nat) (y : List Nat) (mo : ME) : ME := fun ρ st => (mo ρ st).bind fun x st => match x with
  | .str s => if decide (s.length + (s.length + 1) * y.length ≤ 16777216) then .ok (.str (repD a y s)) st else .no
  | _ => .no
theorem rep_ok (a : Nat) (y s : List Nat) : Txt.replace (strOf s) (strOf [a]) (strOf y) = strOf (repD a y s) := by
  have h := StrLaws.replace_list (x := strOf s) (y := strOf [a]) (z := strOf y) (by rw [strOf_len]; exact Nat.le_refl _)
  have h2 : ∀ s : List Nat, StrLaws.replL [a] y s = repD a y s := by
    intro s
    induction s with
    | nil => exact StrLaws.replL_nil
    | cons x r ih =>
      by_cases hx : x = a
      · subst hx
        rw [StrLaws.replL_hit (y := [x]) (by simp) (by simp)]
        show y ++ StrLaws.replL [x] y r = _
        rw [ih]
        simp [repD]
      · rw [StrLaws.replL_miss (by simp [hx]), ih]
        simp [repD, hx]
  have e : (Txt.replace (strOf s) (strOf [a]) (strOf y)).cps = (repD a y s).toArray := by
    rw [← h2 s]
    have h3 := congrArg List.toArray h
    simpa using h3
  show _ = (⟨(repD a y s).toArray⟩ : Str)
  rw [← e]
end

section
variable {X : Cx} {c : Fc} {T : List (Addr × Str)} {W : WX} {o e : PySem.Expr} {es : List PySem.Expr} {mo me : ME} {mr : MA} {pos apos cpos : Pos}
theorem rep_read {a : Nat} {y : List Nat} {σ : L2.St} {H : Hp} {Q : VK} (q : LE c T W (mRep a y mo) σ H Q) : CwR.tReplC (LE c T W mo) (strOf [a]) (strOf y) σ H Q := by
  obtain ⟨z, ρ, st, w, r, q⟩ := q
  refine ⟨z, ρ, st, w, r, (Pst.bnd q).imp fun x H1 ⟨z1, st1, dx, l1, w1, rx, q1⟩ => ?_⟩
  split at q1
  · rename_i s
    split at q1
    · rename_i hz
      cases rx
      refine ⟨_, rfl, by rw [strOf_len, strOf_len]; exact of_decide_eq_true hz, ?_⟩
      rw [rep_ok]
      exact q1 z1 H1 _ (Le.refl z1) w1 (.str _)
    · exact q1.elim
  · exact q1.elim
/-- .. where a token is out -/
abbrev PDT (X : Cx) (c : Fc) (T : List (Addr × Str)) (W : WX) (e : PySem.Expr) (m : ME) : Prop := PET X e (LE c T W m)
theorem e_rep (a : Nat) (y : List Nat) {x1 x2 : Str} {j k : Nat} {c0 c1 : Pos} (ho : PDT X c T W o mo) (h1 : x1 = strOf [a] := by first | rfl | decide) (h2 : x2 = strOf y := by first | rfl | decide) (hyz : (x1 == x2) = false := by decide)
    (hst : starEach [.Constant (.str x1) j c0, .Constant (.str x2) k c1] X.env = [(false, eval (.Constant (.str x1) j c0) X.env), (false, eval (.Constant (.str x2) k c1) X.env)] := by rfl)
    (hbase : attributeBase o "replace" X.env (eval o X.env) = eval o X.env := by rfl) (hline : (apos.endLine == pos.line) = true := by rfl) :
    PDT X c T W (.Call (.Attribute o "replace" apos) [.Constant (.str x1) j c0, .Constant (.str x2) k c1] [] pos) (mRep a y mo) := fun pins s σ H Q h0 I q => by
  subst h1 h2
  exact CwR.pet_replT ho hyz hst hbase hline pins s σ H Q h0 I (rep_read q)
theorem pdt (h : PD X c T W e me) : PDT X c T W e me := CwR.PET.of h
abbrev SDT (X : Cx) (c : Fc) (T : List (Addr × Str)) (W : WX) (s : Stmt) (m : MS) : Prop := PST X s (LS c T W m)
abbrev SsDT (X : Cx) (c : Fc) (T : List (Addr × Str)) (W : WX) (s : List Stmt) (m : MS) : Prop := PSsT X s (LS c T W m)
theorem sst_cons {s1 : Stmt} {r1 : List Stmt} {m n : MS} (h1 : SDT X c T W s1 m) (h2 : SsDT X c T W r1 n) : SsDT X c T W (s1 :: r1) (sSeq m n) := fun pins s σ H D h0 I ⟨z, ρ, st, w, r, q⟩ =>
  psst_cons h1 h2 pins s σ H D h0 I ⟨z, ρ, st, w, r, seq_ok q⟩
theorem sst {r1 : List Stmt} {m : MS} (h : SsD X c T W r1 m) : SsDT X c T W r1 m := PSsT.of h
theorem sdt {s1 : Stmt} {m : MS} (h : SD X c T W s1 m) : SDT X c T W s1 m := PST.of h
/-- name = value, one token out -/
theorem s_setT (i : Nat) {x : Str} {pos' : Pos} (ha : PDT X c T W e me) (hN : X.N.Nodup) (hi : X.N[i]? = some x := by rfl) (hx : Loc X.env.scope x := by first | exact Or.inl rfl | exact Or.inr rfl) (hs : swapsWith e (some (.Name x pos')) pos.line X.env = pure false := by rfl)
    (hf : X.fn x = true ∨ X.env.scope.names.lookup x = some .local := by first | exact .inl rfl | exact .inr rfl) : SDT X c T W (.Assign [.Name x pos'] e pos) (sAsg me (gN i)) := fun pins s σ H D h0 I ⟨z, ρ, st, w, r, q⟩ => by
  have q' := PstS.bnd (R := Rp c.toCc) q r
  refine wpAny_Assign_Name (thn (ha pins s σ H _ h0 I ⟨z, ρ, st, w, r, q'⟩) fun v s1 ⟨x, H1, I1, r1, z1, st1, dx, l1, w1, rx, q1⟩ => ?_) hs
  exact store_ok I1 hN hi hx r1 (fun s2 I2 => ⟨_, H1, I2, q1 z1 H1 _ (Le.refl z1) w1 ((r.mono l1).set (.d rx) i)⟩) hf
end
end Bw
set_option linter.all false
set_option autoImplicit false
set_option maxRecDepth 100000
set_option maxHeartbeats 2000000
/-! Own exceptions whose __init__ calls super().__init__ and lays its arguments as fields. -/
namespace PySem
namespace BwX
open PySem.W PySem.Calls PyProof.Rows PySem.HandSPX Builtin Builtin.ObjectAttr
section
variable {prog : Program} {w : World} {A : Around} {E : Value → Shared → Prop} {R : Result → Shared → Prop} {hp : Heap} {gg : Array GenState} {dd : Drawn} {tt : Nat} {oo : OsState}
/-- what the class C is: own ones above it, then Exception's -/
structure Over (K : Frag) (C : Addr) (cd : ClassData) : Prop where
  at_ : clsIn K C = some cd
  tail : excTail ESX.exTail cd.mro = true
  ob : mroIn K C (.type "object") = some true
  hd : cd.hasDict = true
theorem osa_on {K : Frag} {name : Str} {tk : Tok} {v : Value} {x C : Addr} {ox : Obj} {od : Option Obj} {cd : ClassData} (X : K.In hp) (I : InstAt hp x ox C od) (ov : Over K C cd) (ha : findIn K (.ref C) name = some none)
    (hq : wpAny (model prog w) A.in1 (storeInOwnDict (.ref x) (.ref C) (.str name tk) name v false) (fun fin s' => match fin with | .done f => R (.ok f) s' | .again c' => c'.quiet = true ∧ codeAny (model prog w) A c' R s') (fun e s' => R (.error e) s') ⟨hp, gg, dd, tt, oo⟩) :
    codeAny (model prog w) A (.call (.builtin "object.__setattr__") ⟨[.ref x, .str name tk, v], []⟩) R ⟨hp, gg, dd, tt, oo⟩ := by
  have sf := F.store_object
  have is_ : Looks (model prog w) hp (isInstance (.ref x) (.type "object")) true := I.type.andThen (looks_mroIn X ov.ob)
  refine codeAny_call_builtin sf.slot.plain sf.entry (@check_slot (model prog w) _ _ ⟨hp, gg, dd, tt, oo⟩ "object.__setattr__" "object" "__setattr__" (.ref x) [.str name tk, v] [] _ sf.kind sf.split is_ (sf.args (.ref x) (.str name tk) v) ?_)
  have lm : Looks (model prog w) hp (mroOf (.ref C)) cd.mro := (looks_clsIn X ov.at_).andThen .now
  have lt : Looks (model prog w) hp (storeTaker? none) none := .now
  rw [osa_eq, refuse_eq]
  refine wpAny_bind (wpAny_bind (I.type.at (wpAny_bind (lm.at ?_))))
  rw [excTail_pass (.ref x) (F.store_Exception.passes _) cd.mro ov.tail]
  exact wpAny_pure (wpAny_bind (I.type.at (wpAny_bind ((looks_findIn X ha).at (wpAny_bind (lt.at hq))))))
theorem osa_first {K : Frag} {name : Str} {tk : Tok} {v : Value} {x C : Addr} {fv : Array Value} {cd : ClassData} (X : K.In hp) (hx : hp.get? x = some { cls := .ref C, data := .fields fv }) (ov : Over K C cd) (ha : findIn K (.ref C) name = some none)
    (hq : ∀ h' tk' dx, (∀ b o, b ≠ x → hp.get? b = some o → h'.get? b = some o) → hp.objs.size ≤ dx → dx ≠ x → h'.get? x = some { cls := .ref C, dict := some dx, data := .fields fv } → h'.Ns1 dx (fun y => if y = name then some v else none) → R (.ok (.ret .none)) ⟨h', gg, dd, tk', oo⟩) :
    codeAny (model prog w) A (.call (.builtin "object.__setattr__") ⟨[.ref x, .str name tk, v], []⟩) R ⟨hp, gg, dd, tt, oo⟩ := by
  have I : InstAt hp x { cls := .ref C, data := .fields fv } C none := ⟨hx, rfl, rfl, trivial⟩
  have ne : x ≠ hp.objs.size := Nat.ne_of_lt (Heap.lt_size hx)
  refine osa_on X I ov ha ?_
  have lc : Looks (model prog w) hp (classData C) cd := looks_clsIn X ov.at_
  have hh := ov.hd
  obtain ⟨nm, bs, mro, ns, qn, hd, sn, sb, ab, col, del⟩ := cd
  replace hh : hd = true := hh
  subst hh
  unfold storeInOwnDict
  unfold ownDictForStores
  repeat (first | with_reducible refine HandSPX.store_in_new ?_ ?_ | with_reducible refine wpAny_loadPart_at hx ?_ | with_reducible refine lc.at ?_ | wp_step)
  · exact ⟨_, #[], _, (Heap.get?_update_ne _ _ _ _ ne.symm).trans (Heap.get?_push_at rfl rfl), rfl, fun e he => absurd he (by simp), fun _ => rfl⟩
  · intro h' tk' hn' hs
    have hx1 : (hp.push { cls := .type "dict", data := .dict #[] }).get? x = some { cls := .ref C, data := .fields fv } := Heap.get?_push_of_some _ hx
    exact hq h' tk' hp.objs.size (fun b o hb ho => (hs.2 b (Nat.ne_of_lt (Heap.lt_size ho))).trans ((Heap.get?_update_ne _ _ _ _ hb).trans (Heap.get?_push_of_some _ ho))) (Nat.le_refl _) ne.symm ((hs.2 x ne).trans (Heap.get?_update_self _ hx1 rfl)) hn'
theorem osa_next {K : Frag} {name : Str} {tk : Tok} {v : Value} {x C dx : Addr} {fv : Array Value} {cd : ClassData} {m0 : Str → Option Value} {nl : List Str}
    (X : K.In hp) (hx : hp.get? x = some { cls := .ref C, dict := some dx, data := .fields fv }) (hns : hp.Ns1 dx m0) (hw : PySem.Within m0 nl) (hz : nl.length ≤ 1000) (ov : Over K C cd) (ha : findIn K (.ref C) name = some none)
    (hq : ∀ h' tk', (∀ b o, b ≠ dx → hp.get? b = some o → h'.get? b = some o) → h'.Ns1 dx (fun y => if y = name then some v else m0 y) → R (.ok (.ret .none)) ⟨h', gg, dd, tk', oo⟩) :
    codeAny (model prog w) A (.call (.builtin "object.__setattr__") ⟨[.ref x, .str name tk, v], []⟩) R ⟨hp, gg, dd, tt, oo⟩ := by
  obtain ⟨oD, _, _, hoD, _⟩ := hns.count hw
  have I : InstAt hp x { cls := .ref C, dict := some dx, data := .fields fv } C (some oD) := ⟨hx, rfl, rfl, hoD⟩
  refine osa_on X I ov ha ?_
  have lc : Looks (model prog w) hp (classData C) cd := looks_clsIn X ov.at_
  have hh := ov.hd
  obtain ⟨nm, bs, mro, ns, qn, hd, sn, sb, ab, col, del⟩ := cd
  replace hh : hd = true := hh
  subst hh
  unfold storeInOwnDict
  unfold ownDictForStores
  repeat (first | with_reducible refine ESX.store_in_old hns hw hz ?_ | with_reducible refine wpAny_loadPart_at hx ?_ | with_reducible refine lc.at ?_ | wp_step)
  exact fun h' tk' hn' hs => hq h' tk' (fun b o hb ho => (hs.2 b hb).trans ho) hn'
end

/-- what the written part says of an own exception: its class at C, its __init__ at f, the cell of its __class__ at cc, the code at ca -/
structure Txt (prog : Program) (K : Frag) (mg : Str → Option Value) (C f cc ca : Addr) (cd : ClassData) : Prop where
  cls : ∃ nm q N bs bm sn sub ab col dd k0 k1 k2 k3 k5, K.lookup C = some (excClassObj nm q C N bs bm true sn sub ab col dd k0 k1 k2 k3 k5 "Exception.__new__") ∧ excTail ESX.exTail bm = true
  ov : Over K C cd
  sa : findIn K (.ref C) "__setattr__" = some (some (.builtin "object.__setattr__"))
  ga : findIn K (.ref C) "__getattribute__" = some (some (.builtin "BaseException.__getattribute__"))
  gq : findIn K (.ref C) "__getattr__" = some none
  ini : findIn K (.ref C) "__init__" = some (some (.ref f))
  tI : typeIn K (.ref f) = some (.type "function")
  kp : keepIn K (.ref C) = true
  bs : subIn K (.ref C) (.type "BaseException") = some true
  xs : subIn K (.ref C) (.type "Exception") = some true
  ty : typeIn K (.ref C) = some (.type "type")
  hd : hasDictIn K C = true
  up : ks_superIn K C C "__init__" = some (some (.builtin "Exception.__init__"))
  me : mroIn K C (.ref C) = some true
  cell : ∃ cl cld csl, K.lookup cc = some ⟨cl, cld, .cell (some (.ref C)), csl⟩
  code : ∃ ccl cdd ccs vs file tf, K.lookup ca = some ⟨ccl, cdd, .fields vs, ccs⟩ ∧ vs[2]? = some (.str file tf) ∧ ((prog.main.file : Str) == file) = true
  tp : nsIn K cStatics "thirdparty.any" = some none
  noS : mg "super" = none
  top : (prog.main.scope.names.lookup ("super" : Str)).isSome = false
section
variable {prog : Program} {w : World} {A : Around} {E : Value → Shared → Prop} {R : Result → Shared → Prop} {s : Shared} {K : Frag} {mg mb : Str → Option Value} {C f cc ca : Addr} {cd : ClassData}
theorem ldS {M : Model} {env : Env} {m : Str → Option Value} {x : Str} {pos : Pos} {v : Value} {Q : Value → Shared → Prop} (hn : s.heap.Ns env.locals m) (hv : m x = some v) (h : Q v s) (hk : env.scope.kind = .function) (hl : env.kindOf x = some .local) (hd : (x == ("__debug__" : Str)) = false) :
    wpAny M A (eval (.Name x pos) env) Q E s := wpAny_Name (wpAny_loadName_local hk hl hn hv h) hd
/-- super().__init__(..), its arguments told -/
theorem up_init (T : Txt prog K mg C f cc ca cd) {scope : Scope} {q : Str} {L x t0 : Addr} {fd : FuncData} {oc : Value} {od : Option Addr} {osl : Array (Option Value)} {ar : Arg} {body : List Stmt} {p0 p1 p2 p4 p5 : Pos} {e : PySem.Expr} {es : List PySem.Expr} {vs : List Value} {m : Str → Option Value} {Q : Flow → Shared → Prop}
    (X : K.In s.heap) (G : s.heap.Ns mainGlobals mg) (Bn : s.heap.Ns builtinsNs mb) (hb : mb "super" = some (.type "super")) (lkf : K.lookup f = some ⟨oc, od, .func fd, osl⟩) (hp : (fd.params.posonlyargs ++ fd.params.args).head? = some ar) (hn : s.heap.Ns L m) (hv : m ar.arg = some (.ref x)) (hx : s.heap.get? x = some (excO C t0))
    (hks : scope.names.lookup ("super" : Str) = some .globalImplicit) (hkc : scope.names.lookup ("__class__" : Str) = some .free) (hka : scope.names.lookup ar.arg = some .local) (hk : scope.kind = .function) (hz : vs.length ≤ sizeLine)
    (ha : ∀ s', (∀ b o, s.heap.get? b = some o → s'.heap.get? b = some o) → ∀ Q : List Value → Shared → Prop, (∀ tk, Q vs { s' with toks := tk }) → wpAny (model prog w) A (spliced (backTo p4 (starEach (e :: es) (ksEnv q scope L f (.ref ca) cc)))) Q E s')
    (h : ∀ h' tk t1, (∀ b o, b ≠ x → s.heap.get? b = some o → h'.get? b = some o) → h'.get? x = some (excO C t1) → Q .next { s with heap := h', toks := tk })
    (he : starEach (e :: es) (ksEnv q scope L f (.ref ca) cc) = (false, eval e (ksEnv q scope L f (.ref ca) cc)) :: starEach es (ksEnv q scope L f (.ref ca) cc)) (hpl : (backTo p4 (starEach es (ksEnv q scope L f (.ref ca) cc))).any (·.1) = false)
    (hev : ∃ pl, eval (.Call (.Attribute (.Call (.Name "super" p0) [] [] p1) "__init__" p2) (e :: es) [] p4) (ksEnv q scope L f (.ref ca) cc) = (do
      let ov ← attributeBase (.Call (.Name "super" p0) [] [] p1) "__init__" (ksEnv q scope L f (.ref ca) cc) (eval (.Call (.Name "super" p0) [] [] p1) (ksEnv q scope L f (.ref ca) cc))
      standAt p2.atName
      let (f', first) ← holding [ov] (getMethod ov "__init__" pl)
      callWith p4 f' first (backTo p4 (starEach (e :: es) (ksEnv q scope L f (.ref ca) cc))) []))
    (hi : interactive (ksEnv q scope L f (.ref ca) cc) = false) (hsw : swapsWith (.Call (.Attribute (.Call (.Name "super" p0) [] [] p1) "__init__" p2) (e :: es) [] p4) none p5.line (ksEnv q scope L f (.ref ca) cc) = pure false) :
    wpAt (model prog w) A (.func body (ksEnv q scope L f (.ref ca) cc)) (exec (.Expr (.Call (.Attribute (.Call (.Name "super" p0) [] [] p1) "__init__" p2) (e :: es) [] p4) p5) (ksEnv q scope L f (.ref ca) cc)) Q E s := by
  obtain ⟨nm, qn, N, bs, bm, sn, sub, ab, col, dd, k0, k1, k2, k3, k5, lkC, hbm⟩ := T.cls
  obtain ⟨cl, cld, csl, lkc⟩ := T.cell
  obtain ⟨ccl, cdd, ccs, fs, file, tf, lka, hfs, hfile⟩ := T.code
  obtain ⟨pl, hev⟩ := hev
  obtain ⟨hh, g, d, t, os⟩ := s
  have XC := X _ _ lkC
  have I : InstAt hh x (excO C t0) C none := ⟨hx, rfl, rfl, trivial⟩
  have xC : x ≠ C := ks_ne X I T.ov.at_
  refine ks_wpAt_Expr_any (ks_wpAt_MethodCall (pl := pl) ?_ hev) hi hsw
  refine ks_wpAt_super_base (env := ksEnv q scope L f (.ref ca) cc) hks hkc (by decide) rfl (X _ _ lkf) rfl hp rfl (X _ _ lka) rfl hfs hfile T.top ?_
  refine ks_loadName_global hk hks (loadGlobal_builtin (env := ksEnv q scope L f (.ref ca) cc) G T.noS Bn hb ⟨rfl, ?_⟩)
  refine wpAny_loadName_free hk hkc rfl ⟨_, X _ _ lkc, rfl⟩ ?_
  refine wpAny_loadName_local hk hka hn hv ?_
  refine ks_wpAny_isType_cls XC rfl ⟨rfl, ?_⟩
  refine ks_wpAny_call_super XC rfl hx rfl (fun c e => nomatch e) (looks_mroIn X T.me) (fun h' e1 k => ?_)
  have X1 : K.In h' := X.keeps k
  have I1 : InstAt h' x (excO C t0) C none := ⟨k _ _ hx, rfl, rfl, trivial⟩
  have hI : Looks (model prog w) h' (isInstance (.ref x) (.type "Exception")) true := I1.type.andThen (looks_subIn X1 T.xs)
  have hm := T.up
  unfold ks_superIn at hm
  rw [T.ov.at_] at hm
  refine kxs_getMethod kxs_Exception e1 (looks_opaque X1 T.tp) (l₀ := cd.mro) (fun A Q E s k q => wpAny_bind ((looks_clsIn X1 T.ov.at_) A _ E s k (wpAny_pure q))) rfl X1 hm hI xC (by decide) ?_
  have k2 : ∀ b o, hh.get? b = some o → (h'.push (kxs_mw "Exception.__init__" x)).get? b = some o := fun b o q => Heap.get?_push_of_some _ (k b o q)
  rw [he]
  refine kxs_callWith (i := "Exception.__init__") (x := x) (by show (false || (backTo p4 (starEach es (ksEnv q scope L f (.ref ca) cc))).any (·.1)) = false; rw [hpl]; rfl) ?_
  refine evalArgs_plain ?_
  have ha' := ha ⟨h'.push (kxs_mw "Exception.__init__" x), g, d, t + 1, os⟩ k2
  rw [he] at ha'
  refine ha' _ fun tk => ⟨Heap.get?_push_at rfl rfl, ?_⟩
  refine ESX.call_bw (k2 _ _ XC) (k2 _ _ hx) (Heap.get?_push_at rfl rfl) hz fun h2 t1 k3 hx2 => h h2 _ t1 (fun b o hb q => k3 b o hb (k2 b o q)) hx2
/-- what __init__ leaves of a fresh exception at x -/
structure Left (h h' : Heap) (x C : Addr) (m : Str → Option Value) : Prop where
  keep : ∀ b o, b ≠ x → h.get? b = some o → h'.get? b = some o
  obj : ∃ dx t1, h.objs.size ≤ dx ∧ dx ≠ x ∧ h'.get? x = some { cls := .ref C, dict := some dx, data := .fields #[.ref t1, .none, .none, .none, .bool false, .none] } ∧ h'.Ns1 dx m
theorem in_but {K : Frag} {h h' : Heap} {x : Addr} (X : K.In h) (hx : K.lookup x = none) (k : ∀ b o, b ≠ x → h.get? b = some o → h'.get? b = some o) : K.In h' := fun a o e => k a o (fun z => by rw [z, hx] at e; cases e) (X a o e)
theorem ns_but {h h' : Heap} {L x : Addr} {m : Str → Option Value} (hn : h.Ns L m) (hL : L ≠ x) (k : ∀ b o, b ≠ x → h.get? b = some o → h'.get? b = some o) : h'.Ns L m := by
  obtain ⟨o, es, ep, ho, r⟩ := hn
  exact ⟨o, es, ep, k _ _ hL ho, r⟩
/-- how super().__init__(..) is read, in a context where its rows are known -/
def UpEv (f cc ca : Addr) (qual : Str) (scope : Scope) (p0 p1 p2 p4 p5 : Pos) (es : List PySem.Expr) : Prop := ∀ L : Addr, (∃ pl, eval (.Call (.Attribute (.Call (.Name "super" p0) [] [] p1) "__init__" p2) es [] p4) (ksEnv qual scope L f (.ref ca) cc) = (do
      let ov ← attributeBase (.Call (.Name "super" p0) [] [] p1) "__init__" (ksEnv qual scope L f (.ref ca) cc) (eval (.Call (.Name "super" p0) [] [] p1) (ksEnv qual scope L f (.ref ca) cc))
      standAt p2.atName
      let (f', first) ← holding [ov] (getMethod ov "__init__" pl)
      callWith p4 f' first (backTo p4 (starEach es (ksEnv qual scope L f (.ref ca) cc))) [])) ∧
    swapsWith (.Call (.Attribute (.Call (.Name "super" p0) [] [] p1) "__init__" p2) es [] p4) none p5.line (ksEnv qual scope L f (.ref ca) cc) = pure false
/-- one field -/
structure Ini1 (K : Frag) (f cc ca : Addr) (a : Str) : Prop where
  fn : ∃ (qual : Str) (params : Arguments) (scope : Scope) (doc pm ct oc : Value) (od an : Option Addr) (osl : Array (Option Value)) (p0 p1 p2 p3 p4 p5 q1 q2 q3 q4 : Pos),
    K.lookup f = some ⟨oc, od, .func (ksFn "__init__" qual params [.Expr (.Call (.Attribute (.Call (.Name "super" p0) [] [] p1) "__init__" p2) [.Name a p3] [] p4) p5, .Assign [.Attribute (.Name "self" q1) a q2] (.Name a q3) q4] scope .none .none doc pm an (.ref ca) ct cc), osl⟩ ∧ codeIn K (.ref ca) qual = true ∧
    (params.posonlyargs ++ params.args).head?.map (·.arg) = some "self" ∧ scope.names.lookup ("super" : Str) = some .globalImplicit ∧ scope.names.lookup ("__class__" : Str) = some .free ∧ scope.names.lookup ("self" : Str) = some .local ∧ scope.names.lookup a = some .local ∧ scope.kind = .function ∧ scope.isCoroutine = false ∧ scope.isGenerator = false ∧
    (∀ y ∈ scope.names, y.2 ≠ .cell) ∧ (∀ (s : Shared) (x v : Value), BindsTo s (ksFn "__init__" qual params [.Expr (.Call (.Attribute (.Call (.Name "super" p0) [] [] p1) "__init__" p2) [.Name a p3] [] p4) p5, .Assign [.Attribute (.Name "self" q1) a q2] (.Name a q3) q4] scope .none .none doc pm an (.ref ca) ct cc) ⟨[x, v], []⟩ [("self", x), (a, v)]) ∧
    UpEv f cc ca qual scope p0 p1 p2 p4 p5 [.Name a p3] ∧ ∀ L : Addr, swapsWith (.Name a q3) (some (.Attribute (.Name "self" q1) a q2)) q4.line (ksEnv qual scope L f (.ref ca) cc) = pure false
  as : (a == ("self" : Str)) = false
  ad : (a == ("__debug__" : Str)) = false
theorem ini1 {prog : Program} (T : Txt prog K mg C f cc ca cd) {a : Str} (I : Ini1 K f cc ca a) (ha0 : findIn K (.ref C) a = some none) {x t0 : Addr} {v : Value} (X : K.In s.heap) (G : s.heap.Ns mainGlobals mg) (Bn : s.heap.Ns builtinsNs mb) (hb : mb "super" = some (.type "super")) (hlim : s.heap.NoLimit)
    (hx : s.heap.get? x = some (excO C t0)) (hnx : K.lookup x = none) (hroom : A.depth < recursionLimit)
    (hq : ∀ h' tk, Left s.heap h' x C (fun y => if y = a then some v else none) → R (.ok (.ret .none)) { s with heap := h', toks := tk }) :
    codeAny (model prog w) A (.call (.ref f) ⟨[.ref x, v], []⟩) R s := by
  obtain ⟨qual, params, scope, doc, pm, ct, oc, od, an, osl, p0, p1, p2, p3, p4, p5, q1, q2, q3, q4, lk, hcd, hpar, hks, hkc, hkself, hka, hkind, hco, hgen, hcell, hbind, hev, hsw⟩ := I.fn
  have as_ : ¬ a = "self" := fun e => by have := I.as; rw [e] at this; simp at this
  obtain ⟨ar, har, hself⟩ : ∃ ar, (params.posonlyargs ++ params.args).head? = some ar ∧ ar.arg = "self" := by
    cases e : (params.posonlyargs ++ params.args).head? with
    | none => rw [e] at hpar; cases hpar
    | some ar => rw [e] at hpar; exact ⟨ar, rfl, Option.some.inj hpar⟩
  refine ks_codeAny_call_defAt (binds := [("self", .ref x), (a, v)]) hroom (X _ _ lk) rfl hlim (codeRec_of X hcd) rfl (hbind s (.ref x) v) hcell (fun y hy => ?_) (fun h0 hns k0 => ?_) hco hgen hkind
  · have : y = ((("self" : Str), Value.ref x) : Str × Value) ∨ y = (a, v) := by simpa using hy
    rcases this with rfl | rfl
    · exact hkself
    · exact hka
  have X0 : K.In h0 := X.keeps k0
  have hx0 := k0 _ _ hx
  have hxL : s.heap.objs.size ≠ x := Nat.ne_of_gt (Heap.lt_size hx)
  have ms : List.lookup ("self" : Str) [(("self" : Str), Value.ref x), (a, v)].reverse = some (.ref x) := by
    show List.lookup ("self" : Str) [(a, v), (("self" : Str), Value.ref x)] = _
    have : (("self" : Str) == a) = false := by simpa using fun e => as_ e.symm
    simp [List.lookup, this]
  have ma : List.lookup a [(("self" : Str), Value.ref x), (a, v)].reverse = some v := by
    show List.lookup a [(a, v), (("self" : Str), Value.ref x)] = _
    simp [List.lookup]
  refine ks_wpAt_execs_cons ?_
  refine up_init (s := { s with heap := h0, toks := s.toks + 2 }) T (vs := [v]) X0 (G.keeps k0) (Bn.keeps k0) hb lk har hns (by rw [hself]; exact ms) hx0 hks hkc (by rw [hself]; exact hkself) hkind (by show 1 ≤ sizeLine; decide) (fun s' ks' Q q => ?_) (fun h1 tk t1 k1 hx1 => ?_) rfl rfl (hev _).1 (by simp [interactive, hkind]) (hev _).2
  · refine Calls.spliced_cons (ldS (hns.keeps ks') ma (Calls.spliced_nil ?_) hkind hka I.ad)
    exact q s'.toks
  have X1 : K.In h1 := in_but X0 hnx k1
  have hn1 := ns_but hns hxL k1
  refine ks_wpAt_execs_cons (ks_wpAt_Assign_Attr (wpAt_of_wpAny ?_) (hsw _))
  refine ldS (env := ksEnv qual scope s.heap.objs.size f (.ref ca) cc) hn1 ma ?_ hkind hka I.ad
  refine ldS (env := ksEnv qual scope s.heap.objs.size f (.ref ca) cc) hn1 ms ?_ hkind hkself rfl
  refine set_plain X1 (ox := excO C t1) (od := none) ⟨hx1, rfl, rfl, trivial⟩ T.sa ?_
  refine osa_first X1 hx1 T.ov ha0 fun h2 tk2 dx k2 dn dne hx2 hn2 => ?_
  refine wpAt_of_wpAny (wpAny_execs_nil ?_)
  refine hq h2 tk2 ⟨fun b o hb' e => k2 b o hb' (k1 b o hb' (k0 b o e)), dx, t1, ?_, dne, hx2, hn2⟩
  have z : s.heap.objs.size < h1.objs.size := hn1.lt
  exact Nat.le_of_lt (Nat.lt_of_lt_of_le z dn)
/-- two fields -/
structure Ini2 (K : Frag) (f cc ca : Addr) (a b : Str) : Prop where
  fn : ∃ (qual : Str) (params : Arguments) (scope : Scope) (doc pm ct oc : Value) (od an : Option Addr) (osl : Array (Option Value)) (p0 p1 p2 p3 p6 p4 p5 q1 q2 q3 q4 r1 r2 r3 r4 : Pos) (body : List Stmt),
    body = [.Expr (.Call (.Attribute (.Call (.Name "super" p0) [] [] p1) "__init__" p2) [.Name a p3, .Name b p6] [] p4) p5, .Assign [.Attribute (.Name "self" q1) a q2] (.Name a q3) q4, .Assign [.Attribute (.Name "self" r1) b r2] (.Name b r3) r4] ∧
    K.lookup f = some ⟨oc, od, .func (ksFn "__init__" qual params body scope .none .none doc pm an (.ref ca) ct cc), osl⟩ ∧ codeIn K (.ref ca) qual = true ∧
    (params.posonlyargs ++ params.args).head?.map (·.arg) = some "self" ∧ scope.names.lookup ("super" : Str) = some .globalImplicit ∧ scope.names.lookup ("__class__" : Str) = some .free ∧ scope.names.lookup ("self" : Str) = some .local ∧ scope.names.lookup a = some .local ∧ scope.names.lookup b = some .local ∧ scope.kind = .function ∧ scope.isCoroutine = false ∧ scope.isGenerator = false ∧
    (∀ y ∈ scope.names, y.2 ≠ .cell) ∧ (∀ (s : Shared) (x v u : Value), BindsTo s (ksFn "__init__" qual params body scope .none .none doc pm an (.ref ca) ct cc) ⟨[x, v, u], []⟩ [("self", x), (a, v), (b, u)]) ∧
    UpEv f cc ca qual scope p0 p1 p2 p4 p5 [.Name a p3, .Name b p6] ∧ (∀ L : Addr, swapsWith (.Name a q3) (some (.Attribute (.Name "self" q1) a q2)) q4.line (ksEnv qual scope L f (.ref ca) cc) = pure false) ∧ ∀ L : Addr, swapsWith (.Name b r3) (some (.Attribute (.Name "self" r1) b r2)) r4.line (ksEnv qual scope L f (.ref ca) cc) = pure false
  as : (a == ("self" : Str)) = false
  bs : (b == ("self" : Str)) = false
  ab : (a == b) = false
  ad : (a == ("__debug__" : Str)) = false
  bd : (b == ("__debug__" : Str)) = false
theorem ini2 {prog : Program} (T : Txt prog K mg C f cc ca cd) {a b : Str} (I : Ini2 K f cc ca a b) (ha0 : findIn K (.ref C) a = some none) (hb0 : findIn K (.ref C) b = some none) {x t0 : Addr} {v u : Value} (X : K.In s.heap) (G : s.heap.Ns mainGlobals mg) (Bn : s.heap.Ns builtinsNs mb) (hb : mb "super" = some (.type "super")) (hlim : s.heap.NoLimit)
    (hx : s.heap.get? x = some (excO C t0)) (hnx : K.lookup x = none) (hroom : A.depth < recursionLimit)
    (hq : ∀ h' tk, Left s.heap h' x C (fun y => if y = b then some u else if y = a then some v else none) → R (.ok (.ret .none)) { s with heap := h', toks := tk }) :
    codeAny (model prog w) A (.call (.ref f) ⟨[.ref x, v, u], []⟩) R s := by
  obtain ⟨qual, params, scope, doc, pm, ct, oc, od, an, osl, p0, p1, p2, p3, p6, p4, p5, q1, q2, q3, q4, r1, r2, r3, r4, body, hbody, lk, hcd, hpar, hks, hkc, hkself, hka, hkb, hkind, hco, hgen, hcell, hbind, hev, hsw, hsw2⟩ := I.fn
  have as_ : ¬ a = "self" := fun e => by have := I.as; rw [e] at this; simp at this
  have bs_ : ¬ b = "self" := fun e => by have := I.bs; rw [e] at this; simp at this
  obtain ⟨ar, har, hself⟩ : ∃ ar, (params.posonlyargs ++ params.args).head? = some ar ∧ ar.arg = "self" := by
    cases e : (params.posonlyargs ++ params.args).head? with
    | none => rw [e] at hpar; cases hpar
    | some ar => rw [e] at hpar; exact ⟨ar, rfl, Option.some.inj hpar⟩
  refine ks_codeAny_call_defAt (binds := [("self", .ref x), (a, v), (b, u)]) hroom (X _ _ lk) rfl hlim (codeRec_of X hcd) rfl (hbind s (.ref x) v u) hcell (fun y hy => ?_) (fun h0 hns k0 => ?_) hco hgen hkind
  · have : y = ((("self" : Str), Value.ref x) : Str × Value) ∨ y = (a, v) ∨ y = (b, u) := by simpa using hy
    rcases this with rfl | rfl | rfl
    · exact hkself
    · exact hka
    · exact hkb
  have X0 : K.In h0 := X.keeps k0
  have hx0 := k0 _ _ hx
  have hxL : s.heap.objs.size ≠ x := Nat.ne_of_gt (Heap.lt_size hx)
  have ms : List.lookup ("self" : Str) [(("self" : Str), Value.ref x), (a, v), (b, u)].reverse = some (.ref x) := by
    show List.lookup ("self" : Str) [(b, u), (a, v), (("self" : Str), Value.ref x)] = _
    have h1 : (("self" : Str) == a) = false := by simpa using fun e => as_ e.symm
    have h2 : (("self" : Str) == b) = false := by simpa using fun e => bs_ e.symm
    simp [List.lookup, h1, h2]
  have ma : List.lookup a [(("self" : Str), Value.ref x), (a, v), (b, u)].reverse = some v := by
    show List.lookup a [(b, u), (a, v), (("self" : Str), Value.ref x)] = _
    simp [List.lookup, I.ab]
  have mb2 : List.lookup b [(("self" : Str), Value.ref x), (a, v), (b, u)].reverse = some u := by
    show List.lookup b [(b, u), (a, v), (("self" : Str), Value.ref x)] = _
    simp [List.lookup]
  subst hbody
  refine ks_wpAt_execs_cons ?_
  refine up_init (s := { s with heap := h0, toks := s.toks + 3 }) T (vs := [v, u]) X0 (G.keeps k0) (Bn.keeps k0) hb lk har hns (by rw [hself]; exact ms) hx0 hks hkc (by rw [hself]; exact hkself) hkind (by show 2 ≤ sizeLine; decide) (fun s' ks' Q q => ?_) (fun h1 tk t1 k1 hx1 => ?_) rfl rfl (hev _).1 (by simp [interactive, hkind]) (hev _).2
  · refine Calls.spliced_cons (ldS (hns.keeps ks') ma (Calls.spliced_cons (ldS (hns.keeps ks') mb2 (Calls.spliced_nil ?_) hkind hkb I.bd)) hkind hka I.ad)
    exact q s'.toks
  have X1 : K.In h1 := in_but X0 hnx k1
  have hn1 := ns_but hns hxL k1
  refine ks_wpAt_execs_cons (ks_wpAt_Assign_Attr (wpAt_of_wpAny ?_) (hsw _))
  refine ldS (env := ksEnv qual scope s.heap.objs.size f (.ref ca) cc) hn1 ma ?_ hkind hka I.ad
  refine ldS (env := ksEnv qual scope s.heap.objs.size f (.ref ca) cc) hn1 ms ?_ hkind hkself rfl
  refine set_plain X1 (ox := excO C t1) (od := none) ⟨hx1, rfl, rfl, trivial⟩ T.sa ?_
  refine osa_first X1 hx1 T.ov ha0 fun h2 tk2 dx k2 dn dne hx2 hn2 => ?_
  have X2 : K.In h2 := in_but X1 hnx k2
  have hnL := ns_but hn1 hxL k2
  obtain ⟨oD, _, _, hoD, hdD, _⟩ := id hn2
  have hlt : s.heap.objs.size < h1.objs.size := hn1.lt
  have hdL : s.heap.objs.size ≠ dx := Nat.ne_of_lt (Nat.lt_of_lt_of_le hlt dn)
  refine wpAt_of_wpAny ?_
  refine wpAny_execs_cons (plainObj_wpAny_Assign_Attribute ?_ (hsw2 _))
  refine ldS (env := ksEnv qual scope s.heap.objs.size f (.ref ca) cc) hnL mb2 ?_ hkind hkb I.bd
  refine ldS (env := ksEnv qual scope s.heap.objs.size f (.ref ca) cc) hnL ms ?_ hkind hkself rfl
  refine set_plain X2 (ox := { cls := .ref C, dict := some dx, data := .fields #[.ref t1, .none, .none, .none, .bool false, .none] }) (od := some oD) ⟨hx2, rfl, rfl, hoD⟩ T.sa ?_
  have hw : PySem.Within (fun y => if y = a then some v else none) [a] := fun y hy => by
    by_cases e : y = a
    · rw [e]; simp
    · simp [e] at hy
  refine osa_next X2 hx2 hn2 hw (by show 1 ≤ 1000; omega) T.ov hb0 fun h3 tk3 k3 hn3 => ?_
  refine wpAny_execs_nil ?_
  refine hq h3 tk3 ⟨fun b' o hb' e => ?_, dx, t1, Nat.le_of_lt (Nat.lt_of_lt_of_le hlt dn), dne, k3 _ _ dne.symm hx2, hn3⟩
  have e1 := k1 b' o hb' (k0 b' o e)
  exact k3 b' o (Nat.ne_of_lt (Nat.lt_of_lt_of_le (Heap.lt_size e1) dn)) (k2 b' o hb' e1)
end
end BwX
end PySem
set_option linter.all false
set_option autoImplicit false
set_option maxRecDepth 100000
set_option maxHeartbeats 2000000
/-! Own exceptions made, raised. -/
namespace PySem
namespace BwX
open PySem.W PySem.Calls PyProof.Rows PySem.HandSPX
/-- a made exception -/
structure OwnX (h h' : Heap) (e C d : Addr) (m : Str → Option Value) : Prop where
  keep : ∀ b o, h.get? b = some o → h'.get? b = some o
  new : h.objs.size ≤ e
  obj : ∃ oe vs, h'.get? e = some oe ∧ oe.cls = .ref C ∧ oe.dict = some d ∧ oe.data = .fields vs ∧ vs[1]? = some .none
  dbig : h.objs.size ≤ d
  dne : d ≠ e
  ns : h'.Ns1 d m
/-- the class at C is called: fields of these names -/
def MkX (prog : Program) (w : World) (K : Frag) (mg : Str → Option Value) (C : Addr) (as : List Str) : Prop :=
  ∀ (A : Around) (R : Result → Shared → Prop) (s : Shared) (vs : List L2.V) (us : List Value) (mb : Str → Option Value), K.In s.heap → s.heap.Ns mainGlobals mg → s.heap.Ns builtinsNs mb → mb "super" = some (.type "super") → s.heap.NoLimit → A.depth + 1 < recursionLimit → L2.Vals vs us → vs.length = as.length →
    (∀ h' tk e d m, OwnX s.heap h' e C d m → (∀ f, L2.RelO (List.lookup f (as.zip vs)) (m f)) → R (.ok (.ret (.ref e))) { s with heap := h', toks := tk }) → codeAny (model prog w) A (.call (.ref C) ⟨us, []⟩) R s
section
variable {prog : Program} {w : World} {A : Around} {R : Result → Shared → Prop} {s : Shared} {K : Frag} {mg mb : Str → Option Value} {C f cc ca : Addr} {cd : ClassData}
theorem made {us : List Value} {m : Str → Option Value} (T : Txt prog K mg C f cc ca cd) (hlen : us.length ≤ sizeLine) (X : K.In s.heap) (hroom : A.depth + 1 < recursionLimit)
    (hrun : ∀ (A' : Around) (R' : Result → Shared → Prop) (s' : Shared) (x t0 : Addr), A'.depth = A.depth + 1 → (∀ b o, s.heap.get? b = some o → s'.heap.get? b = some o) → s'.heap.get? x = some (excO C t0) → K.lookup x = none → (∀ h' tk, Left s'.heap h' x C m → R' (.ok (.ret .none)) { s' with heap := h', toks := tk }) → codeAny (model prog w) A' (.call (.ref f) ⟨.ref x :: us, []⟩) R' s')
    (hq : ∀ h' tk e d, OwnX s.heap h' e C d m → R (.ok (.ret (.ref e))) { s with heap := h', toks := tk }) : codeAny (model prog w) A (.call (.ref C) ⟨us, []⟩) R s := by
  obtain ⟨nm, q, N, bs, bm, sn, sub, ab, col, dd, k0, k1, k2, k3, k5, hC, hbm⟩ := T.cls
  obtain ⟨hp, g, dr, tk, os⟩ := s
  have k : ∀ b o, hp.get? b = some o → ((hp.push (kdv_tup us)).push (excO C hp.objs.size)).get? b = some o := fun b o e => Heap.get?_push_of_some _ (Heap.get?_push_of_some _ e)
  have hx : ((hp.push (kdv_tup us)).push (excO C hp.objs.size)).get? (hp.objs.size + 1) = some (excO C hp.objs.size) := by heap_get
  have hn : K.lookup (hp.objs.size + 1) = none := by
    cases e : K.lookup (hp.objs.size + 1) with
    | none => rfl
    | some o => exact absurd (Nat.lt_of_succ_lt (Heap.lt_size (show hp.get? (hp.objs.size + 1) = some o from X _ _ e))) (Nat.lt_irrefl _)
  refine call_own F.excBase_Exception (fun Y => excTail_contains Y bm hbm) (X _ _ hC) (looks_findIn X T.ini) (fun self => bind_fn X self T.tI) hlen ?_
  refine hrun _ _ ⟨(hp.push (kdv_tup us)).push (excO C hp.objs.size), g, dr, tk, os⟩ (hp.objs.size + 1) hp.objs.size L2.make_depth k hx hn fun h' tk' l => ?_
  obtain ⟨dx, t1, dbig, dne, hob, hns⟩ := l.obj
  have old : ∀ b o, hp.get? b = some o → h'.get? b = some o := fun b o e => l.keep b o (Nat.ne_of_lt (Nat.lt_succ_of_lt (Heap.lt_size e))) (k b o e)
  have z : hp.objs.size + 1 + 1 ≤ dx := by
    have q := dbig
    rw [Heap.size_push, Heap.size_push] at q
    exact q
  exact ⟨rfl, hq h' tk' (hp.objs.size + 1) dx ⟨old, Nat.le_succ _, ⟨_, _, hob, rfl, rfl, rfl, rfl⟩, Nat.le_trans (Nat.le_succ_of_le (Nat.le_succ _)) z, dne, hns⟩⟩
theorem made1 (T : Txt prog K mg C f cc ca cd) {a : Str} (I : Ini1 K f cc ca a) (ha : findIn K (.ref C) a = some none) : MkX prog w K mg C [a] := by
  intro A R s vs us mb X G Bn hb hlim hroom r hl hq
  cases r with
  | nil => cases hl
  | @cons v v' _ _ rv rr =>
    cases rr with
    | cons _ _ => simp at hl
    | nil =>
    refine made (m := fun y => if y = a then some v' else none) T (by show 1 ≤ sizeLine; decide) X hroom (fun A' R' s' x t0 hA k hx hn hR => ?_) fun h' tk e d o => hq h' tk e d _ o fun f => ?_
    · exact ini1 T I ha (X.keeps k) (G.keeps k) (Bn.keeps k) hb (hlim.keeps k) hx hn (by rw [hA]; exact hroom) hR
    · show L2.RelO (List.lookup f [(a, v)]) _
      by_cases e : f = a
      · subst e
        rw [if_pos rfl]
        have : List.lookup f [(f, v)] = some v := by simp [List.lookup]
        rw [this]
        exact rv
      · rw [if_neg e]
        have h0 : (f == a) = false := by simpa using e
        have : List.lookup f [(a, v)] = none := by simp [List.lookup, h0]
        rw [this]
        trivial
theorem made2 (T : Txt prog K mg C f cc ca cd) {a b : Str} (I : Ini2 K f cc ca a b) (ha : findIn K (.ref C) a = some none) (hb0 : findIn K (.ref C) b = some none) : MkX prog w K mg C [a, b] := by
  intro A R s vs us mb X G Bn hb hlim hroom r hl hq
  cases r with
  | nil => cases hl
  | @cons v v' _ _ rv rr =>
    cases rr with
    | nil => simp at hl
    | @cons u u' _ _ ru rr =>
    cases rr with
    | cons _ _ => simp at hl
    | nil =>
    refine made (m := fun y => if y = b then some u' else if y = a then some v' else none) T (by show 2 ≤ sizeLine; decide) X hroom (fun A' R' s' x t0 hA k hx hn hR => ?_) fun h' tk e d o => hq h' tk e d _ o fun f => ?_
    · exact ini2 T I ha hb0 (X.keeps k) (G.keeps k) (Bn.keeps k) hb (hlim.keeps k) hx hn (by rw [hA]; exact hroom) hR
    · show L2.RelO (List.lookup f [(a, v), (b, u)]) _
      by_cases e : f = b
      · subst e
        rw [if_pos rfl]
        have h0 : (f == a) = false := by
          have := I.ab
          cases h : f == a with
          | false => rfl
          | true => rw [beq_iff_eq] at h; subst h; simp at this
        have : List.lookup f [(a, v), (f, u)] = some u := by simp [List.lookup, h0]
        rw [this]
        exact ru
      · rw [if_neg e]
        have h0 : (f == b) = false := by simpa using e
        by_cases e2 : f = a
        · subst e2
          rw [if_pos rfl]
          have : List.lookup f [(f, v), (b, u)] = some v := by simp [List.lookup]
          rw [this]
          exact rv
        · rw [if_neg e2]
          have h1 : (f == a) = false := by simpa using e2
          have : List.lookup f [(a, v), (b, u)] = none := by simp [List.lookup, h0, h1]
          rw [this]
          trivial
end
end BwX
end PySem
set_option linter.all false
set_option autoImplicit false
set_option maxRecDepth 100000
set_option maxHeartbeats 2000000
/-! raise, try, an error's field, by data. -/
namespace Bw
open PySem PySem.Spec PyProof.Rows L2
/-- C(e, ..) -/
def tMkX (C : Addr) (as : List Str) (ta : TA) : L2.St → Hp → XK → Prop := fun σ H Q => ta σ H fun vs H1 => vs.length = as.length ∧ ∀ d, H1 d = none → Q (.ref C) (some d) (upd H1 d (.xd (as.zip vs)))
theorem boot_sup : bootBuiltins "super" = some (.type "super") := by decide +kernel
section
variable {X : Cx} {c : Fc} {T : List (Addr × Str)} {W : WX}
theorem pmk_x {C : Addr} {as : List Str} {x : Str} {e : PySem.Expr} {es : List PySem.Expr} {ta : TA} {p pos : Pos} {k : Nat} (M : BwX.MkX X.prog X.w X.K X.mg C as) (kp : PySem.W.keepIn X.K (.ref C) = true) (r1 : PySem.W.subIn X.K (.ref C) (.type "BaseException") = some true) (r2 : PySem.W.typeIn X.K (.ref C) = some (.type "type"))
    (hr : Room k X.A) (hm : X.mg x = some (.ref C)) (ha : PA X (e :: es) ta) (hg : Gl X x) (hdb : (x == ("__debug__" : Str)) = false) (he : starEach (e :: es) X.env = (false, eval e X.env) :: starEach es X.env) (hpl : (backTo pos (starEach es X.env)).any (·.1) = false) :
    PMk X (.Call (.Name x p) (e :: es) [] pos) (tMkX C as ta) := by
  intro pins s σ H Q I h
  refine wpAny_Call_Name_kw (ld_glob I hg hm ?_ hdb)
  refine PySem.W.callWith_K (h₀ := X.base) I.ok.mod.kin kp (thn (ha.run pos pins s σ H _ I h) fun us s1 ⟨vs, H1, I1, rv, hl, q⟩ => ⟨I1.kIn, ?_⟩) he hpl
  show wpAny _ _ (call (.ref C) us) _ _ _
  have lim := I1.nolimit
  obtain ⟨mb, hb1, hb2⟩ := I1.mod.blt
  have G := I1.mod.glob.keeps I1.bk
  have B := hb1.keeps I1.bk
  obtain ⟨hp, g, dr, tk, os⟩ := s1
  refine wpAny_call (M X.A _ ⟨hp, g, dr, tk, os⟩ vs us mb I1.kIn G B ((hb2 _ (by decide)).trans boot_sup) lim (by have := hr.dp; omega) rv hl fun h' tk' e d m O rel => ?_)
  show MkP X pins σ Q (.ref e) ⟨h', g, dr, tk', os⟩
  obtain ⟨oe, fv, hoe, hc, hd, hdat, h1⟩ := O.obj
  obtain ⟨G', g1, g2⟩ := restrict h' fun b => decide (b ≠ e)
  have gk : ∀ b, b ≠ e → G'.get? b = h'.get? b := fun b hb => g1 b (decide_eq_true hb)
  have ge : G'.get? e = none := g2 e (by simp)
  have old : ∀ b o, hp.get? b = some o → G'.get? b = some o := fun b o q => (gk b (Nat.ne_of_lt (Nat.lt_of_lt_of_le (Heap.lt_size q) O.new))).trans (O.keep b o q)
  have ob : ObjOk X.prog X.w (upd H1 d (.xd (as.zip vs))) G' d (.xd (as.zip vs)) := ⟨m, O.ns.at (fun o q => (gk d O.dne).trans q), rel⟩
  have J : L2.Inv X pins σ (upd H1 d (.xd (as.zip vs))) ⟨G', g, dr, tk', os⟩ := I1.laid (t' := tk') old O.dbig ob
  refine ⟨e, oe, fv, ⟨G', g, dr, tk', os⟩, _, .ref C, some d, rfl, J, fun b o q => ?_, ge, hoe, ⟨hc, hd⟩, hdat, h1, ?_, rfl, I1.bare, raises_own r1 r2, q d (I1.hok.fresh O.dbig)⟩
  · by_cases hb : b = e
    · have q' : G'.get? b = some o := q
      rw [hb, ge] at q'
      cases q'
    · exact (gk b hb).symm.trans q
  · rw [upd_ne (Ne.symm O.dne)]
    exact I1.hok.fresh O.new
def sRaise (cls : String) (as : List String) (a : MA) : MS := fun ρ st => sBind (a ρ st) ρ fun ds st => if ds.length = as.length then .er ⟨cls, as.zip ds⟩ ρ st else .no
theorem rpf_zip {c : Cc} {z : Zw} : ∀ {as : List String} {vs : List V} {ds : List D}, Rps c z vs ds → Rpf c z ((as.map Str.ofString).zip vs) (as.zip ds)
  | [], _, _, _ => .nil
  | _ :: _, _, _, .nil => .nil
  | _ :: as, _, _, .cons a t => .cons a (rpf_zip t)
theorem s_raise {C : Addr} (x : String) {as : List String} {e : PySem.Expr} {es : List PySem.Expr} {mr : MA} {p p2 pos : Pos} {k : Nat} (hmg : X.mg = c.mg) (tk : Takes X W) (hc : X.calm = true) (M : BwX.MkX X.prog X.w X.K X.mg C (as.map Str.ofString)) (kp : PySem.W.keepIn X.K (.ref C) = true) (r1 : PySem.W.subIn X.K (.ref C) (.type "BaseException") = some true)
    (r2 : PySem.W.typeIn X.K (.ref C) = some (.type "type")) (hr : Room k X.A) (hm : X.mg (Str.ofString x) = some (.ref C)) (ha : PA X (e :: es) (LA c T W mr)) (hg : Gl X (Str.ofString x) := by rfl) (hdb : (Str.ofString x == ("__debug__" : Str)) = false := by decide) (he : starEach (e :: es) X.env = (false, eval e X.env) :: starEach es X.env := by rfl)
    (hpl : (backTo p2 (starEach es X.env)).any (·.1) = false := by rfl) : SD X c T W (.Raise (some (.Call (.Name (Str.ofString x) p) (e :: es) [] p2)) none pos) (sRaise x as mr) :=
  imp_PS (ps_raise hc tk (pmk_x M kp r1 r2 hr hm ha hg hdb he hpl)) fun D σ H ⟨z, ρ, st, w, r, q⟩ => ⟨z, ρ, st, w, r, (PstS.bnd q r).imp fun vs H1 ⟨z1, st1, ds, l1, w1, rs, q1⟩ => by
    split at q1
    · rename_i hl
      refine ⟨by rw [rs.len, hl, List.length_map], fun d hd => ?_⟩
      have l2 := Zw.lay_le (o := HO.xd ((as.map Str.ofString).zip vs)) (w1.noG hd)
      exact q1 _ _ σ _ _ l2 (w1.lay hd) ((r.mono l1).mono l2) ⟨⟨C, rfl, by rw [← hmg]; exact hm⟩, _, upd_same, rpf_zip (rs.mono l2)⟩
    · exact q1.elim⟩
/-! ### several clauses with a name -/
/-- a clause: its class, its name's slot, its suite -/
abbrev Cl := Value × Nat × (Addr → Value → Option Addr → TS)
def unset (i : Nat) (D : Ends) : Ends := { nx := fun σ' H' => D.nx (σ'.set i none) H', rt := D.rt, bk := fun σ' H' => D.bk (σ'.set i none) H', ct := fun σ' H' => D.ct (σ'.set i none) H' }
def wCls (K : PySem.W.Frag) (Wo : WX) (D : Ends) : List Cl → WX
  | [] => Wo
  | (v, i, ts) :: r => fun cls d σ H => ∃ b, PySem.W.exmOne K cls v = some b ∧ (b = true → ∀ a, H a = none → ts a cls d (unset i D) (σ.set i (some (.ref a))) H) ∧ (b = false → wCls K Wo D r cls d σ H)
inductive ClsOk (X : Cx) : List ExceptHandler → List Cl → Prop
  | nil : ClsOk X [] []
  | cons {x n : Str} {v : Value} {i : Nat} {ts : Addr → Value → Option Addr → TS} {b0 : Stmt} {suite : List Stmt} {np pos' : Pos} {hds : List ExceptHandler} {l : List Cl} (hc : Names X x v) (hi : X.N[i]? = some n) (hln : X.env.kindOf n = some .local)
      (hsu : ∀ (a : Addr) (oe : Obj) (cls : Value) (d : Option Addr) (pn : List (Addr × Obj)), Zc cls d oe → (∃ vs, oe.data = .fields vs) → PSs (X.suite a ((a, oe) :: pn)) (b0 :: suite) (ts a cls d)) (r : ClsOk X hds l) : ClsOk X (.ExceptHandler (some (.Name x np)) (some n) (b0 :: suite) pos' :: hds) ((v, i, ts) :: l)
theorem ps_tryAs {body : List Stmt} {h0 : ExceptHandler} {hds : List ExceptHandler} {l : List Cl} {pos : Pos} {tb : WX → TS} {Wo : WX} (hs : X.stack = X.env :: X.outer) (hf : X.env.frame = some X.env.locals) (hN : X.N.Nodup) (tk : Takes X Wo)
    (hb : ∀ (W : WX) (pn : List (Addr × Obj)) (xe : Value → Shared → Prop), Takes (X.tr pn xe) W → PassesOwn (model X.prog X.w) X.A X.env xe → PSs (X.tr pn xe) body (tb W)) (hh : ClsOk X (h0 :: hds) l) : PS X (.Try body (h0 :: hds) [] [] pos) (fun D σ H => tb (wCls X.K Wo D l) D σ H) := by
  refine ⟨fun pins s σ H D I h => ?_⟩
  have ok := I.ok
  have frm : X.A.frames = some (X.env :: X.outer) := by rw [ok.frames, hs]
  refine wpAny_Try_except ?_
  refine wpAny_mono ((hb (wCls X.K Wo D l) (X.pn ++ pins) (fun e s1 => wpAny (model X.prog X.w) X.A (noteFrame e X.env) (fun _ s2 => wpAny (model X.prog X.w) X.A (setFlight e none) (fun _ s3 => wpAny (model X.prog X.w) X.A (handleBy e X.env (h0 :: hds)) (SP X pins D) X.xe s3) X.xe s2) X.xe s1)
    (fun u s' xx => ?_) PassesOwn.looking).run [] s σ H D (I.toTry _) h) (fun fl s1 hsp => ?_) (fun e s1 he => he)
  · obtain ⟨a, B, sI, pins', σ1, H1, cls, d, rfl, J0, nb, up, sky, na, os, ag, w⟩ := xx
    have J : L2.Inv X pins σ1 H1 sI := J0.ofTry ok
    rw [hs] at sky
    show wpAny (model X.prog X.w) X.A (noteFrame (.ref a) X.env) _ _ _
    refine Sky.land Zc.steady frm hf sky fun h3 f3 up3 => ?_
    have J3 : L2.Inv X pins σ1 H1 { s' with heap := h3 } := J.landed nb f3.1 (up.trans up3) os ag
    obtain ⟨oe3, vs3, he3, hz3, hd3⟩ := f3.there
    have nfr : a ∉ frs (X.env :: X.outer) := fun hm => by
      obtain ⟨_, o', e', hnf⟩ := f3.2.2.1.mem hm
      rw [he3] at e'
      cases e'
      exact hnf _ hd3
    have nL : a ≠ X.env.locals := fun z => nfr (List.mem_filterMap.mpr ⟨X.env, List.mem_cons_self, by rw [hf, z]⟩)
    have nF : a ∉ X.fs := fun hm => by
      obtain ⟨e, he, q⟩ := List.mem_filterMap.mp hm
      exact nfr (List.mem_filterMap.mpr ⟨e, List.mem_cons_of_mem _ he, q⟩)
    have S3 := J3.suite he3 hd3 na nL nF
    have walk : ∀ {hds' : List ExceptHandler} {l' : List Cl}, ClsOk X hds' l' → wCls X.K Wo D l' cls d σ1 H1 → wpAny (model X.prog X.w) X.A (handleBy (.ref a) X.env hds') (SP X pins D) X.xe { s' with heap := h3 } := by
      intro hds' l' hk
      induction hk with
      | nil =>
        intro w
        refine wpAny_handleBy_nil ?_
        obtain ⟨k1, k2, k3, oe, vs, Tb, oT, ts', he, hz, hd, h1, hr⟩ := id f3
        unfold PySem.passOn
        refine wpAny_bind (wpAny_field he hd h1 ?_)
        rw [if_neg (show ¬ ((Value.ref Tb == Value.none) = true) from by simp)]
        have out : wpAny (model X.prog X.w) X.A (setFlight (.ref a) X.env.frame) (fun _ s4 => wpAny (model X.prog X.w) X.A (throw (.ref a) : Sem Flow) (SP X pins D) X.xe s4) X.xe { s' with heap := h3 } := by
          rw [hf]
          refine HandSPX.setFlight_upZ f3 fun h4 hh4 up4 => wpAny_throw (tk _ _ ?_)
          exact ⟨a, B, sI, pins, σ1, H1, cls, d, rfl, J, nb, (up.trans up3).trans up4, .inr (.inr (by rw [hs]; exact hh4)), na, os, ag, w⟩
        first
          | exact wpAny_bind (wpAny_pure (wpAny_bind out))
          | exact wpAny_bind out
      | @cons x n v i ts b0 suite np pos' hds2 l2 hc hi hln hsu r ih =>
        intro w
        obtain ⟨b, hb1, yes, no⟩ := w
        refine wpAny_handleBy_cons (codeAny_handlers_test ?_) (by intro q; cases q)
        have LT : PySem.W.Looks (model X.prog X.w) h3 (typeOf (.ref a)) cls := fun A Q E s k q => wpAny_typeOf_ref (k _ _ he3) (by rw [hz3.1]; exact q)
        have LM := PySem.W.exm_one (M := model X.prog X.w) (J3.kIn) LT hb1
        have test : ∀ {Q : Value → Shared → Prop} {E : Value → Shared → Prop}, Q v { s' with heap := h3 } → wpAny (model X.prog X.w) (X.A.mark (some (.ref a))) (eval (.Name x np) X.env) Q E { s' with heap := h3 } := fun {Q E} q => by
          obtain ⟨hg, hdbg, hm | ⟨hm, hv, hnn⟩⟩ := hc
          · exact ld_glob (X := X.suite a ((a, oe3) :: (X.pn ++ pins))) S3 hg hm q hdbg
          · exact ld_blt (X := X.suite a ((a, oe3) :: (X.pn ++ pins))) S3 hg hm hv q hnn hdbg
        refine test (LM.here ?_)
        cases b with
        | true =>
          refine codeAny_handlers_suite_as ?_
          refine HandSPX.lands_againZ f3 fun h4 f4 up4 => ?_
          have J4 : L2.Inv X pins σ1 H1 { s' with heap := h4 } := J.landed nb f4.1 ((up.trans up3).trans up4) os ag
          obtain ⟨oe4, vs4, he4, hz4, hd4⟩ := f4.there
          have S4 := J4.suite he4 hd4 na nL nF
          refine store_ok (X := X.suite a ((a, oe4) :: (X.pn ++ pins))) (v := .ref a) S4 hN hi (.inl hln) rfl (fun s5 S5 => ?_) (.inr hln)
          refine wpAny_mono ((hsu a oe4 cls d (X.pn ++ pins) hz4 ⟨_, hd4⟩).run [] s5 _ H1 _ S5 (yes rfl a na)) (fun f s6 hsp => ?_) (fun _ _ z => False.elim z)
          have fin : ∀ {σ6 : L2.St} {H6 : Hp} {Q : Shared → Prop}, L2.Inv (X.suite a ((a, oe4) :: (X.pn ++ pins))) [] σ6 H6 s6 → (∀ s7, L2.Inv X pins (σ6.set i none) H6 s7 → Q s7) → wpAny (model X.prog X.w) X.A (do bindName X.env n .none; unbindBehindTheSuite X.env n pos') (fun _ s7 => Q s7) X.xe s6 :=
            fun {σ6 H6 Q} S6 hq => gone_ok (S6.unsuite ok) hN hi hln hq
          cases f with
          | next => obtain ⟨σ6, H6, S6, q6⟩ := hsp; exact fin S6 fun s7 J7 => ⟨_, _, J7, q6⟩
          | brk => obtain ⟨σ6, H6, S6, q6⟩ := hsp; exact fin S6 fun s7 J7 => ⟨_, _, J7, q6⟩
          | cont => obtain ⟨σ6, H6, S6, q6⟩ := hsp; exact fin S6 fun s7 J7 => ⟨_, _, J7, q6⟩
          | ret u => obtain ⟨v6, σ6, H6, S6, r6, q6⟩ := hsp; exact fin S6 fun s7 J7 => ⟨_, _, _, J7, r6, q6⟩
        | false => exact ih (no rfl)
    exact walk hh w
  · cases fl with
    | next => obtain ⟨σ', H', J', q⟩ := hsp; exact wpAny_execs_nil ⟨σ', H', J'.ofTry ok, q⟩
    | brk => obtain ⟨σ', H', J', q⟩ := hsp; exact ⟨σ', H', J'.ofTry ok, q⟩
    | cont => obtain ⟨σ', H', J', q⟩ := hsp; exact ⟨σ', H', J'.ofTry ok, q⟩
    | ret u => obtain ⟨v, σ', H', J', r, q⟩ := hsp; exact ⟨v, σ', H', J'.ofTry ok, r, q⟩
end
end Bw
set_option linter.all false
set_option autoImplicit false
set_option maxRecDepth 100000
set_option maxHeartbeats 2000000
/-! try and an error's field, by data. -/
namespace Bw
open PySem PySem.Spec PyProof.Rows L2
abbrev Hd := String × Nat × (Er → MS)
def noX (ρ : Env) : Bool := ρ.all fun o => match o with
  | some (.clo 1) => false
  | _ => true
def unsetO (i : Nat) : Out → Out
  | .nx ρ st => if noX (ρ.set i none) then .nx (ρ.set i none) st else .no
  | .bk ρ st => if noX (ρ.set i none) then .bk (ρ.set i none) st else .no
  | .ct ρ st => if noX (ρ.set i none) then .ct (ρ.set i none) st else .no
  | .rt d st => .rt d st
  | _ => .no
def handF (exm : String → String → Option Bool) (e : Er) (ρ : Env) (st : Store) : List Hd → Out
  | [] => .er e ρ st
  | (n, i, s) :: r => match exm e.cls n with
    | some true => unsetO i (s e (ρ.set i (some (.clo 1))) st)
    | some false => handF exm e ρ st r
    | none => .no
def sTry (exm : String → String → Option Bool) (b : MS) (hs : List Hd) : MS := fun ρ st => match b ρ st with
  | .er e ρ' st' => handF exm e ρ' st' hs
  | o => o
/-- which clause takes which class -/
def ExmOk (K : PySem.W.Frag) (mg : Str → Option Value) (exm : String → String → Option Bool) : Prop :=
  ∀ n1 n2 C1 C2 b, mg (Str.ofString n1) = some (.ref C1) → mg (Str.ofString n2) = some (.ref C2) → exm n1 n2 = some b → PySem.W.exmOne K (.ref C1) (.ref C2) = some b
abbrev Fc.sui (c : Fc) (a : Addr) (z : Zw) : Fc := { c with xa := some a, z0 := z }
inductive HdsD (X : Cx) (c : Fc) (T : List (Addr × Str)) : List ExceptHandler → List Hd → Prop
  | nil : HdsD X c T [] []
  | cons {x : String} {n : Str} {C : Addr} {i : Nat} {s : Er → MS} {b0 : Stmt} {suite : List Stmt} {np pos' : Pos} {hds : List ExceptHandler} {l : List Hd} (hm : X.mg (Str.ofString x) = some (.ref C)) (hc : Names X (Str.ofString x) (.ref C)) (hi : X.N[i]? = some n) (hln : X.env.kindOf n = some .local)
      (hsu : ∀ (a : Addr) (oe : Obj) (cls : Value) (d : Option Addr) (pn : List (Addr × Obj)) (er : Er) (z0 : Zw), Zc cls d oe → (∃ vs, oe.data = .fields vs) → ErOk c.toCc z0 er cls d → SsD (X.suite a ((a, oe) :: pn)) (c.sui a z0) T W0 (b0 :: suite) (s er)) (r : HdsD X c T hds l) :
      HdsD X c T (.ExceptHandler (some (.Name (Str.ofString x) np)) (some n) (b0 :: suite) pos' :: hds) ((x, i, s) :: l)
section
variable {X : Cx} {c : Fc} {T : List (Addr × Str)} {W : WX}
def tCl (c : Fc) (T : List (Addr × Str)) (s : Er → MS) : Addr → Value → Option Addr → TS := fun a cls d D σ H => ∃ er z0, ErOk c.toCc z0 er cls d ∧ LS (c.sui a z0) T W0 (s er) D σ H
theorem noX_at {ρ : Env} (h : noX ρ = true) {j : Nat} (e : ρ[j]? = some (some (.clo 1))) : False := by
  unfold noX at h
  rw [List.all_eq_true] at h
  have := h _ (List.mem_of_getElem? e)
  cases this
theorem un_env {a : Addr} {z0 z : Zw} {σ : L2.St} {ρ : Env} {i : Nat} (l0 : Lg c.z0 z0) (r : Rσ (c.sui a z0) z σ ρ) (h : noX (ρ.set i none) = true) : Rσ c z (σ.set i none) (ρ.set i none) := by
  refine ⟨by rw [List.length_set, List.length_set]; exact r.len, fun j d e => ?_, l0.trans r.le⟩
  by_cases hj : i = j
  · subst hj
    by_cases hl : i < ρ.length
    · rw [List.getElem?_set_self hl] at e; cases e
    · rw [List.getElem?_eq_none (by rw [List.length_set]; omega)] at e; cases e
  · have e' := e
    rw [List.getElem?_set_ne hj] at e
    obtain ⟨v, h1, h2⟩ := r.at_ j d e
    refine ⟨v, by rw [List.getElem?_set_ne hj]; exact h1, ?_⟩
    cases h2 with
    | d h => exact .d h
    | clo h => exact .clo h
    | exc _ => exact (noX_at h e').elim
theorem un_out {a : Addr} {z0 z : Zw} {i : Nat} {o : Out} {D : Ends} (l0 : Lg c.z0 z0) (q : PstS c T W z (unsetO i o) D) : PstS (c.sui a z0) T W0 z o (unset i D) := by
  cases o with
  | nx ρ st =>
    have q : PstS c T W z (if noX (ρ.set i none) then .nx (ρ.set i none) st else .no) D := q
    split at q
    · rename_i h
      exact fun z' H' σ' l w r => q z' H' _ l w (un_env l0 r h)
    · exact q.elim
  | bk ρ st =>
    have q : PstS c T W z (if noX (ρ.set i none) then .bk (ρ.set i none) st else .no) D := q
    split at q
    · rename_i h
      exact fun z' H' σ' l w r => q z' H' _ l w (un_env l0 r h)
    · exact q.elim
  | ct ρ st =>
    have q : PstS c T W z (if noX (ρ.set i none) then .ct (ρ.set i none) st else .no) D := q
    split at q
    · rename_i h
      exact fun z' H' σ' l w r => q z' H' _ l w (un_env l0 r h)
    · exact q.elim
  | rt d st => exact fun z' H' v l w r => q z' H' v l w r
  | er _ _ _ => exact q.elim
  | no => exact q.elim
theorem hds_cls {hds : List ExceptHandler} {hs : List Hd} (h : HdsD X c T hds hs) : ∃ l : List Cl, ClsOk X hds l ∧ ∀ {exm : String → String → Option Bool}, ExmOk X.K X.mg exm → X.mg = c.mg → c.xa = none → ∀ {z : Zw} {e : Er} {ρ : Env} {st : Store} {D : Ends}, PstS c T W z (handF exm e ρ st hs) D →
    ∀ z' H' σ' cls dd, Le z z' → Wf c.toCc T z' st H' → Rσ c z' σ' ρ → ErOk c.toCc z' e cls dd → wCls X.K W D l cls dd σ' H' := by
  induction h with
  | nil => exact ⟨[], .nil, fun {exm} _ _ _ {z e ρ st D} q z' H' σ' cls dd l w r eo => q z' H' σ' cls dd l w r eo⟩
  | @cons x n C i s b0 suite np pos' hds l hm hc hi hln hsu r ih =>
    obtain ⟨lc, ok, ih⟩ := ih
    refine ⟨(.ref C, i, tCl c T s) :: lc, .cons hc hi hln (fun a oe cls d pn hz hd => ⟨fun pins s' σ H D I ⟨er, z0, eo, q⟩ => (hsu a oe cls d pn er z0 hz hd eo).run pins s' σ H D I q⟩) ok, ?_⟩
    intro exm hx hmg hxa z e ρ st D q z' H' σ' cls dd l w r eo
    have eo' := eo
    obtain ⟨⟨Ce, rfl, hme⟩, _⟩ := eo'
    unfold handF at q
    split at q
    · rename_i hb
      refine ⟨true, hx _ _ _ _ _ (by rw [hmg]; exact hme) hm hb, fun _ a na => ?_, fun h => Bool.noConfusion h⟩
      refine ⟨e, z', eo, z', _, st, w, ?_, un_out r.le (q.le l)⟩
      have r0 : Rσ (c.sui a z') z' σ' ρ := ⟨r.len, fun j d e => let ⟨v, h1, h2⟩ := r.at_ j d e; ⟨v, h1, by
        cases h2 with
        | d h => exact .d h
        | clo h => exact .clo h
        | exc h => rw [hxa] at h; cases h⟩, Lg.refl z'⟩
      exact r0.set (.exc rfl) i
    · rename_i hb
      exact ⟨false, hx _ _ _ _ _ (by rw [hmg]; exact hme) hm hb, fun h => Bool.noConfusion h, fun _ => ih hx hmg hxa q z' H' σ' _ dd l w r eo⟩
    · exact q.elim
theorem s_try {body : List Stmt} {h0 : ExceptHandler} {hds : List ExceptHandler} {hs : List Hd} {exm : String → String → Option Bool} {m : MS} {pos : Pos} (hmg : X.mg = c.mg) (hxa : c.xa = none) (hst : X.stack = X.env :: X.outer) (hf : X.env.frame = some X.env.locals) (hN : X.N.Nodup) (tk : Takes X W) (hx : ExmOk X.K X.mg exm)
    (hb : ∀ (W' : WX) (pn : List (Addr × Obj)) (xe : Value → Shared → Prop), Takes (X.tr pn xe) W' → PassesOwn (model X.prog X.w) X.A X.env xe → SsD (X.tr pn xe) c T W' body m) (hh : HdsD X c T (h0 :: hds) hs) : SD X c T W (.Try body (h0 :: hds) [] [] pos) (sTry exm m hs) := by
  obtain ⟨l, ok, read⟩ := hds_cls (W := W) hh
  refine imp_PS (ps_tryAs (tb := fun W' => LS c T W' m) hst hf hN tk hb ok) fun D σ H ⟨z, ρ, st, w, r, q⟩ => ⟨z, ρ, st, w, r, ?_⟩
  unfold sTry at q
  cases e : m ρ st with
  | er er ρ' st' => rw [e] at q; exact read hx hmg hxa q
  | nx ρ' st' => rw [e] at q; exact q
  | rt d st' => rw [e] at q; exact q
  | bk ρ' st' => rw [e] at q; exact q
  | ct ρ' st' => rw [e] at q; exact q
  | no => rw [e] at q; exact q
/-! ### e.field in the suite -/
/-- how a field of an error of the class at C is found -/
structure Gets (K : PySem.W.Frag) (C : Addr) (f : Str) : Prop where
  ga : PySem.W.findIn K (.ref C) "__getattribute__" = some (some (.builtin "BaseException.__getattribute__"))
  gq : PySem.W.findIn K (.ref C) "__getattr__" = some none
  bs : PySem.W.subIn K (.ref C) (.type "BaseException") = some true
  hd : PySem.W.hasDictIn K C = true
  no : PySem.W.findIn K (.ref C) f = some none
def mFld (ns : List String) (i : Nat) (f : String) (er : Er) : ME := fun ρ st => match ρ[i]? with
  | some (some (.clo 1)) => if er.cls ∈ ns then match er.fs.lookup f with
      | some d => .ok d st
      | none => .no
    else .no
  | _ => .no
theorem ofString_inj {a b : String} (h : Str.ofString a = Str.ofString b) : a = b := by
  rw [Str.ofString_eq_toList, Str.ofString_eq_toList] at h
  have h1 : a.toList.map Char.toNat = b.toList.map Char.toNat := by
    have := congrArg (fun s : Str => s.cps.toList) h
    simpa using this
  have inj : ∀ l m : List Char, l.map Char.toNat = m.map Char.toNat → l = m := by
    intro l
    induction l with
    | nil => intro m e; cases m with
      | nil => rfl
      | cons _ _ => cases e
    | cons x l ih => intro m e; cases m with
      | nil => cases e
      | cons y m =>
        have e1 := (List.cons.inj e).1
        rw [ih m (List.cons.inj e).2, Char.ext (UInt32.toNat_inj.mp e1)]
  have h2 : a.toList = b.toList := inj _ _ h1
  exact String.ext_iff.mpr h2
theorem rpf_look {c : Cc} {z : Zw} {f : String} {d : D} : ∀ {fs : List (Str × V)} {es : List (String × D)}, Rpf c z fs es → es.lookup f = some d → ∃ v, List.lookup (Str.ofString f) fs = some v ∧ Rp c z v d
  | _, _, .nil, e => by cases e
  | _, _, @Rpf.cons _ _ x v d0 fs es a t, e => by
    by_cases h : f = x
    · subst h
      simp [List.lookup] at e
      subst e
      exact ⟨v, by simp [List.lookup], a⟩
    · have h1 : (f == x) = false := by simpa using h
      have h2 : (Str.ofString f == Str.ofString x) = false := by
        cases q : Str.ofString f == Str.ofString x with
        | false => rfl
        | true => exact absurd (ofString_inj (beq_iff_eq.mp q)) h
      simp [List.lookup, h1] at e
      obtain ⟨v', e1, e2⟩ := rpf_look t e
      exact ⟨v', by simp [List.lookup, h2]; exact e1, e2⟩
theorem e_fld {a : Addr} {oe : Obj} {cls : Value} {d : Option Addr} {pn : List (Addr × Obj)} {er : Er} {z0 : Zw} {W : WX} (ns : List String) (i : Nat) (f : String) {x : Str} {p pos : Pos} (hK : X.K = c.K) (hmg : X.mg = c.mg) (hz : Zc cls d oe) (hd : ∃ vs, oe.data = .fields vs) (eo : ErOk c.toCc z0 er cls d)
    (hG : ∀ n ∈ ns, ∀ C, X.mg (Str.ofString n) = some (.ref C) → Gets X.K C (Str.ofString f)) (hN : X.N[i]? = some x := by rfl) (hv : Vis X.env.scope x := by first | exact Or.inl rfl | exact Or.inr (Or.inl rfl) | exact Or.inr (Or.inr rfl)) (hdb : (x == ("__debug__" : Str)) = false := by decide) (hcd : (x == ("__classdict__" : Str)) = false := by decide)
    (hb : attributeBase (.Name x p) (Str.ofString f) X.env (eval (.Name x p) X.env) = eval (.Name x p) X.env := by rfl) : PD (X.suite a ((a, oe) :: pn)) (c.sui a z0) T W (.Attribute (.Name x p) (Str.ofString f) pos) (mFld ns i f er) := by
  refine ⟨fun pins s σ H Q I ⟨z, ρ, st, w, r, q⟩ => ?_⟩
  unfold mFld at q
  split at q
  · rename_i hi
    split at q
    · rename_i hn
      split at q
      · rename_i dd hl
        obtain ⟨v, h1, h2⟩ := r.at_ i _ hi
        have hva : v = .ref a := by
          cases h2 with
          | d h => cases h
          | exc h => cases h; rfl
        subst hva
        refine attr_of hb (thn ((pe_var (pos := p) (i := i) (X := X.suite a ((a, oe) :: pn)) hN hv hdb hcd).run pins s σ H (fun y H1 => y = .ref a ∧ H1 = H) I ⟨.ref a, h1, rfl, rfl⟩) fun u s1 ⟨y, H1, I1, r1, e1, e2⟩ => ?_)
        subst e1 e2
        obtain rfl : u = Value.ref a := r1
        obtain ⟨⟨C, rfl, hmc⟩, hdd⟩ := eo
        have g := hG _ hn C (by rw [hmg]; exact hmc)
        cases d with
        | none =>
          have hdd' : er.fs = [] := hdd
          rw [hdd'] at hl
          cases hl
        | some dx =>
          obtain ⟨fs, hfs, rf⟩ := hdd
          obtain ⟨fv, hlk, rv⟩ := rpf_look rf hl
          have hH : H1 dx = some (.xd fs) := w.sub _ _ (r.le.g _ _ hfs)
          obtain ⟨ha, _⟩ := I1.pin (a, oe) (List.mem_append_left _ List.mem_cons_self)
          obtain ⟨vs, hdat⟩ := hd
          obtain ⟨mA, hns, hr⟩ := (show ∃ mA, s1.heap.Ns1 dx mA ∧ ∀ f, RelO (List.lookup f fs) (mA f) from I1.hok dx _ hH)
          obtain ⟨od, ho, hlo⟩ := lookIn_ns hns
          obtain ⟨u, hu, ru⟩ := RelO.some_of (v := fv) (o := mA (Str.ofString f)) (by rw [← hlk]; exact hr _)
          have J : PySem.W.InstAt s1.heap a oe C (some od) := ⟨ha, hz.1, by unfold PySem.W.notCls; rw [hdat] <;> rfl, by rw [hz.2]; exact ho⟩
          exact HandSPX.exc_get I1.kIn J g.ga g.gq g.bs (PySem.W.findObj_own g.hd g.no rfl (by rw [hlo, hu])) (handed_of ru) ⟨fv, H1, I1.tok _, ru, q z H1 fv (Le.refl z) w (rv.monoG r.le)⟩
      · exact q.elim
    · exact q.elim
  · exact q.elim
end
end Bw
set_option linter.all false
set_option autoImplicit false
set_option maxRecDepth 100000
set_option maxHeartbeats 2000000
/-! Lambdas made: with or without a default. -/
namespace PySem
namespace BwX
open PySem.W PySem.Calls PyProof.Rows
abbrev lamFn (dV : Value) (q : Str) (params : Arguments) (body : Expr) (scope : Scope) (cl : List (Str × Addr)) (pm cdv ct : Value) : FuncData := { kla_fn "<lambda>" q params body scope cl pm cdv ct with defaults := dV }
abbrev lamObj (dV : Value) (q : Str) (params : Arguments) (body : Expr) (scope : Scope) (cl : List (Str × Addr)) (pm : Value) (c' : Addr) (ct : Value) : Obj := { cls := .type "function", data := .func (lamFn dV q params body scope cl pm (.ref c') ct) }
section
variable {M : Model} {A : Around} {E : Value → Shared → Prop} {s : Shared} {qual : Str} {params : Arguments} {body : Expr} {scope : Scope} {env : Env} {c P : Addr} {ps : Array Value} {pos : Pos} {firstLine : Nat} {mg : Str → Option Value} {clos : List (Str × Addr)} {Q : Value → Shared → Prop} {dV : Value}
theorem tail_new (hcl : closureFor scope env = pure clos) (hge : env.globals = mainGlobals) (hg : s.heap.Ns mainGlobals mg) (hcode : env.code = .ref c) (C : CodeHd s.heap c P) (hP : s.heap.get? P = some (tabObj ps)) (ht : TriplesOk ps.toList) (hnf : codeAmong pos ps.toList = none) (hgP : mainGlobals ≠ P) (hb : s.heap.BuiltinsAt mg P)
    (h : ∀ c' ctv h' tk, Heap.ExtBut P s.heap h' → s.heap.objs.size ≤ c' → c' < h'.objs.size → h'.CodeRec (.ref c') qual → h'.get? P = some (tabObj (ps ++ #[rawInt pos.line, rawInt pos.col, .ref c'])) → Q (.ref h'.objs.size) { s with heap := h'.push (lamObj dV qual params body scope clos ((mg "__name__").getD .none) c' ctv), toks := tk }) :
    wpAny M A (makeTail "<lambda>" qual params (.expr body) scope env dV .none none pos firstLine) Q E s := by
  obtain ⟨bm, ob, hbm, ne0, _, neP, hbo, bc, bd, bdat⟩ := hb
  unfold makeTail
  rw [hcl, hge]
  refine wpAny_bind (wpAny_pure ?_)
  cases clos with
  | nil =>
    simp only [List.isEmpty_nil, if_true]
    refine wpAny_bind (wpAny_pure (wpAny_bind (wpAny_functionCodeX hcode (C.code hP ht) (C.tab hP) hnf fun c' h' tk hx hge' hlt _ hrec htb _ => ?_)))
    have hg' := hg.extBut hx hgP
    refine wpAny_bind (wpAny_builtinsFor hg' hbm ne0 (hx _ _ neP hbo) bc bd bdat (wpAny_bind (wpAny_nsGet hg' ?_)))
    exact wpAny_bind (wpAny_pure (wpAny_newObj_type (h c' .none h' tk hx hge' hlt hrec htb.2) (by size_fits)))
  | cons q r =>
    simp only [List.isEmpty_cons, Bool.false_eq_true, if_false]
    refine wpAny_bind (wpAny_newTextTuple (wpAny_bind (wpAny_functionCodeX hcode ((C.keeps fun b o e => Heap.get?_push_of_some _ e).code (Heap.get?_push_of_some _ hP) ht) ((C.keeps fun b o e => Heap.get?_push_of_some _ e).tab (Heap.get?_push_of_some _ hP)) hnf fun c' h' tk hx hge' hlt _ hrec htb _ => ?_)))
    have hg' := (hg.push _).extBut hx hgP
    have hx' : Heap.ExtBut P s.heap h' := fun b o hb' e => hx b o hb' (Heap.get?_push_of_some _ e)
    have hge2 : s.heap.objs.size ≤ c' := Nat.le_trans (by rw [Heap.size_push]; omega) hge'
    refine wpAny_bind (wpAny_builtinsFor hg' hbm ne0 (hx' _ _ neP hbo) bc bd bdat (wpAny_bind (wpAny_nsGet hg' ?_)))
    exact wpAny_bind (wpAny_pure (wpAny_newObj_type (h c' _ h' tk hx' hge2 hlt hrec htb.2) (by size_fits)))
theorem tail_old {cv : Value} (hcl : closureFor scope env = pure clos) (hge : env.globals = mainGlobals) (hg : s.heap.Ns mainGlobals mg) (hcode : env.code = .ref c) (C : CodeHd s.heap c P) (hP : s.heap.get? P = some (tabObj ps)) (ht : TriplesOk ps.toList) (hf : codeAmong pos ps.toList = some cv) (hb : s.heap.BuiltinsAt mg P)
    (h : ∀ (ctv : Value) (h' : Heap) (tk : Tok), (∀ b o, s.heap.get? b = some o → h'.get? b = some o) → s.heap.objs.size ≤ h'.objs.size → Q (.ref h'.objs.size) { s with heap := h'.push { cls := .type "function", data := .func (lamFn dV qual params body scope clos ((mg "__name__").getD .none) cv ctv) }, toks := tk }) :
    wpAny M A (makeTail "<lambda>" qual params (.expr body) scope env dV .none none pos firstLine) Q E s := by
  obtain ⟨bm, ob, hbm, ne0, _, neP, hbo, bc, bd, bdat⟩ := hb
  unfold makeTail
  rw [hcl, hge]
  refine wpAny_bind (wpAny_pure ?_)
  cases clos with
  | nil =>
    simp only [List.isEmpty_nil, if_true]
    refine wpAny_bind (wpAny_pure (wpAny_bind (wpAny_functionCode_hit hcode (C.code hP ht) hf (wpAny_bind (wpAny_builtinsFor hg hbm ne0 hbo bc bd bdat (wpAny_bind (wpAny_nsGet hg ?_)))))))
    exact wpAny_bind (wpAny_pure (wpAny_newObj_type (h .none s.heap s.toks (fun _ _ e => e) (Nat.le_refl _)) (by size_fits)))
  | cons q r =>
    simp only [List.isEmpty_cons, Bool.false_eq_true, if_false]
    refine wpAny_bind (wpAny_newTextTuple (wpAny_bind (wpAny_functionCode_hit hcode ((C.keeps fun b o e => Heap.get?_push_of_some _ e).code (Heap.get?_push_of_some _ hP) ht) hf (wpAny_bind (wpAny_builtinsFor (hg.push _) hbm ne0 (Heap.get?_push_of_some _ hbo) bc bd bdat (wpAny_bind (wpAny_nsGet (hg.push _) ?_)))))))
    have sz : ∀ oT : Obj, s.heap.objs.size ≤ (s.heap.push oT).objs.size := fun oT => by rw [Heap.size_push]; omega
    exact wpAny_bind (wpAny_pure (wpAny_newObj_type (h _ _ s.toks (fun b o e => Heap.get?_push_of_some _ e) (sz _)) (by size_fits)))
end
end BwX
end PySem
namespace Bw
open PySem PySem.Spec PyProof.Rows L2 LamX
section
variable {X : Cx} {pins : List (Addr × Obj)} {σ : L2.St} {H : Hp} {s : Shared}
/-- the lambda's object is made: all that was tracked stands, but for the maker's table -/
theorem lam_tail {T : List (Addr × Str)} {c P : Addr} {params : Arguments} {body : PySem.Expr} {scope : Scope} {pos : Pos} {dV : Value} {E : Value → Shared → Prop} {Q : Value → Shared → Prop} (I : L2.Inv X pins σ H s) (TB : TabB X.base X.mg c P) (hcode : X.env.code = .ref c)
    (hm : (P, X.env.qual ++ "<lambda>") ∈ T) (hu : ∀ p ∈ T, p.1 = P → p.2 = X.env.qual ++ "<lambda>") (hT : Tabs T H) (hfree : ∀ y ∈ scope.names, y.2 = .free → ∃ c, X.env.cells.lookup y.1 = some c)
    (h : ∀ (f c' : Addr) (pm ctv : Value) (H1 : Hp) (s' : Shared), L2.Inv X pins σ H1 s' → (∀ b o, b ≠ P → H b = some o → H1 b = some o) → Tabs T H1 → (∀ b o, b ≠ P → s.heap.get? b = some o → s'.heap.get? b = some o) → (∀ b o, s.heap.get? b = some o → H b = none → H1 b = none) →
      s'.heap.get? f = some (BwX.lamObj dV (X.env.qual ++ "<lambda>") params body scope (cloFrom X.env.cells scope.names []) pm c' ctv) → H1 f = none → f ∉ frs X.stack → H1 c' = some (CodeO c' (X.env.qual ++ "<lambda>")) → Q (.ref f) s') :
    wpAny (model X.prog X.w) X.A (makeTail "<lambda>" (X.env.qual ++ "<lambda>") params (.expr body) scope X.env dV .none none pos pos.line) Q E s := by
  obtain ⟨ps, hP, ht, ha⟩ := hT _ hm
  have bP : s.heap.BuiltinsAt X.mg P := TB.bm.keeps I.bk
  have hP' : s.heap.get? P = some { cls := .none, data := .fields ps } := I.hok P _ hP
  have nofr : ∀ f, s.heap.objs.size ≤ f → f ∉ frs X.stack := fun f hf z => by
    rcases List.mem_cons.mp (I.stkSub _ z) with e | e
    · have := I.lt
      rw [← e] at this
      exact Nat.lt_irrefl _ (Nat.lt_of_lt_of_le this hf)
    · exact I.nofs hf e
  cases hc : codeAmong pos ps.toList with
  | none =>
    refine BwX.tail_new (mg := X.mg) (c := c) (P := P) (ps := ps) (closure_ok hfree) I.ok.glob (I.mod.glob.keeps I.bk) hcode (TB.code.keeps I.bk) hP' ht hc TB.gP bP fun c' ctv h' tk hx hge hlt hrec htb => ?_
    obtain ⟨c2, oc, vs, t, e2, hoc, hd, hv⟩ := hrec
    cases e2
    have sz : s.heap.objs.size ≤ h'.objs.size := Nat.le_trans hge (Nat.le_of_lt hlt)
    have nC : H c' = none := I.hok.fresh hge
    have hkp : ∀ b o, b ≠ P → s.heap.get? b = some o → (h'.push (BwX.lamObj dV (X.env.qual ++ "<lambda>") params body scope (cloFrom X.env.cells scope.names []) ((X.mg "__name__").getD .none) c' ctv)).get? b = some o := fun b o hb e => Heap.get?_push_of_some _ (hx b o hb e)
    have I1 := inv_table (t' := tk) (q := X.env.qual ++ "<lambda>") (more := #[rawInt pos.line, rawInt pos.col, .ref c']) (h' := h'.push (BwX.lamObj dV (X.env.qual ++ "<lambda>") params body scope (cloFrom X.env.cells scope.names []) ((X.mg "__name__").getD .none) c' ctv)) I hP hkp (Heap.get?_push_of_some _ htb) hge ⟨oc, vs, t, Heap.get?_push_of_some _ hoc, hd, hv⟩
    have hE : ∀ b o, b ≠ P → H b = some o → upd (upd H P (.tbl (ps ++ #[rawInt pos.line, rawInt pos.col, .ref c']))) c' (CodeO c' (X.env.qual ++ "<lambda>")) b = some o := fun b o n e => by
      rw [upd_ne (ne_of_none e nC), upd_ne n]
      exact e
    have eL : (ps ++ #[rawInt pos.line, rawInt pos.col, .ref c']).toList = ps.toList ++ [rawInt pos.line, rawInt pos.col, .ref c'] := by simp
    refine h h'.objs.size c' ((X.mg "__name__").getD .none) ctv _ _ I1 hE (fun p hp => ?_) hkp (fun b o e n => ?_) (Heap.get?_push_size _ rfl) ?_ (nofr _ sz) upd_same
    · by_cases hb : p.1 = P
      · rw [hu p hp hb, hb]
        refine ⟨_, by rw [upd_ne (ne_of_none hP nC), upd_same], by rw [eL]; exact PySem.TriplesOk_snoc _ _ _ _ ht, fun p' cv hcv => ?_⟩
        rw [eL] at hcv
        rcases among_app _ ht hcv with z | z
        · obtain ⟨c0, e1, e2⟩ := ha p' cv z
          exact ⟨c0, e1, hE _ _ (fun q => by rw [q, hP] at e2; exact codeO_ne _ (Option.some.inj e2).symm) e2⟩
        · exact ⟨c', z, upd_same⟩
      · obtain ⟨ps', a1, a2, a3⟩ := hT p hp
        refine ⟨ps', hE _ _ hb a1, a2, fun p' cv hcv => ?_⟩
        obtain ⟨c0, e1, e2⟩ := a3 p' cv hcv
        exact ⟨c0, e1, hE _ _ (fun q => by rw [q, hP] at e2; exact codeO_ne _ (Option.some.inj e2).symm) e2⟩
    · rw [upd_ne (Nat.ne_of_lt (Nat.lt_of_lt_of_le (Heap.lt_size e) hge)), upd_ne (fun q => by rw [q, hP] at n; cases n)]
      exact n
    · rw [upd_ne (Nat.ne_of_gt hlt), upd_ne (Nat.ne_of_gt (Nat.lt_of_lt_of_le (Heap.lt_size hP') sz))]
      exact I.hok.fresh sz
  | some cv =>
    obtain ⟨c', e, hco⟩ := ha pos cv hc
    subst e
    refine BwX.tail_old (mg := X.mg) (c := c) (P := P) (ps := ps) (closure_ok hfree) I.ok.glob (I.mod.glob.keeps I.bk) hcode (TB.code.keeps I.bk) hP' ht hc bP fun ctv h' tk hx hsz => ?_
    have hkp : ∀ b o, s.heap.get? b = some o → (h'.push (BwX.lamObj dV (X.env.qual ++ "<lambda>") params body scope (cloFrom X.env.cells scope.names []) ((X.mg "__name__").getD .none) c' ctv)).get? b = some o := fun b o e => Heap.get?_push_of_some _ (hx b o e)
    exact h h'.objs.size c' ((X.mg "__name__").getD .none) ctv H _ (I.kept (t' := tk) hkp) (fun _ _ _ e => e) hT (fun b o _ e => hkp b o e) (fun _ _ _ n => n) (Heap.get?_push_size _ rfl) (I.hok.fresh hsz) (nofr _ hsz) hco
end
end Bw
set_option linter.all false
set_option autoImplicit false
set_option maxRecDepth 100000
set_option maxHeartbeats 2000000
/-! What is called: defs by their data, lambdas handed to defs. -/
namespace Bw
open PySem PySem.Spec PyProof.Rows L2
def Fc.of (c : Cc) : Fc := ⟨c, none, none, ⟨fun _ => none, [], fun _ => none⟩⟩
/-- what follows a call -/
def PstC (c : Cc) (T : List (Addr × Str)) (z : Zw) (r : Res D) (Q : VK) (E : XK) : Prop := Pst (Rp c) (Fc.of c) T (fun cls dd _ H => E cls dd H) z [] r Q
theorem PstC.of {c : Fc} {T : List (Addr × Str)} {z : Zw} {r : Res D} {Q : VK} {W : WX} {σ : L2.St} (h : Pst (Rp c.toCc) c T W z σ r Q) : PstC c.toCc T z r Q (WE W σ) := by
  cases r with
  | ok d st => exact h
  | er e st => exact h
  | no => exact h
theorem PstC.to {c : Fc} {T : List (Addr × Str)} {z : Zw} {r : Res D} {Q : VK} {E : XK} {σ : L2.St} (h : PstC c.toCc T z r Q E) : Pst (Rp c.toCc) c T (fun cls dd _ H => E cls dd H) z σ r Q := by
  cases r with
  | ok d st => exact h
  | er e st => exact h
  | no => exact h
/-! ### one state after another -/
structure Rch (S0 : List PySem.Env) (s0 : Shared) (H0 : Hp) (z0 : Zw) (S1 : List PySem.Env) (s1 : Shared) (H1 : Hp) (z1 : Zw) : Prop where
  un : Un (frs S0) [] H0 H1 s0.heap s1.heap
  fr : ∀ b ∈ frs S1, b ∈ frs S0 ∨ s0.heap.get? b = none
  z : Lg z0 z1
theorem Rch.trans {S0 S1 S2 : List PySem.Env} {s0 s1 s2 : Shared} {H0 H1 H2 : Hp} {z0 z1 z2 : Zw} (a : Rch S0 s0 H0 z0 S1 s1 H1 z1) (b : Rch S1 s1 H1 z1 S2 s2 H2 z2) : Rch S0 s0 H0 z0 S2 s2 H2 z2 := by
  have out : ∀ {x o}, s0.heap.get? x = some o → x ∉ frs S0 → x ∉ frs S1 := fun {x o} e h h1 => by
    rcases a.fr x h1 with q | q
    · exact h q
    · rw [e] at q; cases q
  refine ⟨⟨fun x o e n h hx => b.un.keep x o (a.un.keep x o e n h hx) (a.un.free x o e n hx) (out e h) hx, fun x o e n h hx => ?_, fun x o e n hx => ?_, fun x o e hx => ?_, fun x xs e => b.un.tups x xs (a.un.tups x xs e), fun x o u e => b.un.frzs x o u (a.un.frzs x o u e), fun x ps e => ?_⟩, fun x hx => ?_, a.z.trans b.z⟩
  · obtain ⟨sl, e1⟩ := a.un.slot x o e n h hx
    obtain ⟨sl2, e2⟩ := b.un.any e1 (a.un.free x o e n hx) hx
    exact ⟨sl2, e2⟩
  · obtain ⟨o', e1⟩ := a.un.there x o e hx
    exact b.un.free x o' e1 (a.un.free x o e n hx) hx
  · obtain ⟨o', e1⟩ := a.un.there x o e hx
    exact b.un.there x o' e1 hx
  · obtain ⟨m1, e1⟩ := a.un.tbls x ps e
    obtain ⟨m2, e2⟩ := b.un.tbls x _ e1
    exact ⟨m1 ++ m2, by rw [e2, Array.append_assoc]⟩
  · rcases b.fr x hx with q | q
    · exact a.fr x q
    · refine .inr ?_
      cases e : s0.heap.get? x with
      | none => rfl
      | some o =>
        obtain ⟨o', e1⟩ := a.un.there x o e (by simp)
        rw [q] at e1
        cases e1
/-- from the entry of a def to where it stands -/
theorem Rch.now {X : Cx} {pins : List (Addr × Obj)} {σ : L2.St} {H : Hp} {s : Shared} {z0 z : Zw} (I : L2.Inv X pins σ H s) (hex : X.ex = []) (l : Lg z0 z) : Rch X.outer X.s_0 X.H_0 z0 X.stack s H z := by
  refine ⟨by have := I.base; rw [hex] at this; exact this, fun b hb => ?_, l⟩
  rcases List.mem_cons.mp (I.stkSub b hb) with e | e
  · refine .inr ?_
    rw [e]
    exact Heap.get?_none_of_le I.ok.above
  · exact .inl e
/-- what stands at a may be called and does as g says, from a state on -/
structure Clos (P : Program) (w : World) (K : PySem.W.Frag) (mg : Str → Option Value) (base : Heap) (c : Cc) (T : List (Addr × Str)) (k : Nat) (S0 : List PySem.Env) (s0 : Shared) (H0 : Hp) (z0 : Zw) (a : Addr) (g : Clo) : Prop where
  at_ : ∀ S1 s1 H1 z1, Rch S0 s0 H0 z0 S1 s1 H1 z1 → PySem.W.FnAt a s1.heap
  run : ∀ (A : Around) (S1 : List PySem.Env) (s1 : Shared) (H1 : Hp) (z1 : Zw) (st : Store) (us : List Value) (vs : List V) (ds : List D) (Q : VK) (E : XK), Room k A → Env0 P w K mg base A S1 s1 H1 → Rch S0 s0 H0 z0 S1 s1 H1 z1 → Wf c T z1 st H1 → Vals vs us → Rps c z1 vs ds → PstC c T z1 (g ds st) Q E →
    codeAny (model P w) A (.call (.ref a) ⟨us, []⟩) (CR (L2.CX P w) S1 P w H1 s1 Q E) s1
theorem Clos.at' {P : Program} {w : World} {K : PySem.W.Frag} {mg : Str → Option Value} {base : Heap} {c : Cc} {T : List (Addr × Str)} {k : Nat} {S0 S1 : List PySem.Env} {s0 s1 : Shared} {H0 H1 : Hp} {z0 z1 : Zw} {a : Addr} {g : Clo} (h : Clos P w K mg base c T k S0 s0 H0 z0 a g) (r : Rch S0 s0 H0 z0 S1 s1 H1 z1) : Clos P w K mg base c T k S1 s1 H1 z1 a g :=
  ⟨fun S2 s2 H2 z2 q => h.at_ S2 s2 H2 z2 (r.trans q), fun A S2 s2 H2 z2 st us vs ds Q E hr e0 q => h.run A S2 s2 H2 z2 st us vs ds Q E hr e0 (r.trans q)⟩
/-! ### x(..), x the frame's closure -/
def mAct (i : Nat) (g : Clo) (a : MA) : ME := fun ρ st => match ρ[i]? with
  | some (some (.clo 0)) => (a ρ st).bind g
  | _ => .no
section
variable {X : Cx} {c : Fc} {T : List (Addr × Str)} {W : WX} {e : PySem.Expr} {es : List PySem.Expr} {mr : MA} {pos p1 : Pos}
theorem act_end {pins : List (Addr × Obj)} {σ : L2.St} {H : Hp} {s : Shared} {Q : VK} {a : Addr} {us : List Value} (tk : Takes X W) (I : L2.Inv X pins σ H s) (h : codeAny (model X.prog X.w) X.A (.call (.ref a) ⟨us, []⟩) (CR (L2.CX X.prog X.w) X.stack X.prog X.w H s Q (WE W σ)) s) :
    wpAny (model X.prog X.w) X.A (call (.ref a) us) (EP X pins σ Q) X.xe s := by
  refine wpAny_call (codeAny_mono h fun r s' hq => ?_)
  cases r with
  | error e => exact passAt tk σ pins H s e s' I hq
  | ok fl =>
    cases fl with
    | ret u => exact I.after hq
    | next => exact False.elim hq
    | brk => exact False.elim hq
    | cont => exact False.elim hq
theorem e_act0 (i : Nat) {x : Str} {k : Nat} {a : Addr} {g : Clo} (hca : c.ca = some a) (ho : Clos X.prog X.w X.K X.mg X.base c.toCc T k X.outer X.s_0 X.H_0 c.z0 a g) (hr : Room k X.A) (tk : Takes X W) (hex : X.ex = [] := by rfl) (hN : X.N[i]? = some x := by rfl)
    (hv : Vis X.env.scope x := by first | exact Or.inl rfl | exact Or.inr (Or.inl rfl) | exact Or.inr (Or.inr rfl)) (hd : (x == ("__debug__" : Str)) = false := by decide) (hcd : (x == ("__classdict__" : Str)) = false := by decide) : PD X c T W (.Call (.Name x p1) [] [] pos) (mAct i g aNil) := by
  refine ⟨fun pins s σ H Q I ⟨z, ρ, st, w, r, q⟩ => ?_⟩
  unfold mAct at q
  split at q
  · rename_i hi
    obtain ⟨v, h1, h2⟩ := r.at_ i _ hi
    have hva : v = .ref a := by
      cases h2 with
      | d h => cases h
      | clo h => rw [hca] at h; cases h; rfl
    subst hva
    refine wpAny_Call_Name_kw (thn ((pe_var (pos := p1) (i := i) hN hv hd hcd).run pins s σ H (fun v H1 => v = .ref a ∧ H1 = H) I ⟨.ref a, h1, rfl, rfl⟩) fun u s1 ⟨v, H1, I1, r1, e1, e2⟩ => ?_)
    subst e1 e2
    obtain rfl : u = Value.ref a := r1
    have rc := Rch.now I1 hex r.le
    refine PySem.W.callWith_F0 (ho.at_ _ _ _ _ rc) ?_
    exact act_end tk I1 (ho.run X.A X.stack s1 H1 z st [] [] [] Q _ hr I1.env0 rc w .nil .nil (PstC.of q))
  · exact q.elim
theorem e_act (i : Nat) {x : Str} {k : Nat} {a : Addr} {g : Clo} (hca : c.ca = some a) (ho : Clos X.prog X.w X.K X.mg X.base c.toCc T k X.outer X.s_0 X.H_0 c.z0 a g) (hr : Room k X.A) (tk : Takes X W) (ha : PA X (e :: es) (LA c T W mr)) (hex : X.ex = [] := by rfl) (hN : X.N[i]? = some x := by rfl)
    (hv : Vis X.env.scope x := by first | exact Or.inl rfl | exact Or.inr (Or.inl rfl) | exact Or.inr (Or.inr rfl)) (hd : (x == ("__debug__" : Str)) = false := by decide) (hcd : (x == ("__classdict__" : Str)) = false := by decide)
    (he : starEach (e :: es) X.env = (false, eval e X.env) :: starEach es X.env := by rfl) (hpl : (backTo pos (starEach es X.env)).any (·.1) = false := by rfl) : PD X c T W (.Call (.Name x p1) (e :: es) [] pos) (mAct i g mr) := by
  refine ⟨fun pins s σ H Q I ⟨z, ρ, st, w, r, q⟩ => ?_⟩
  unfold mAct at q
  split at q
  · rename_i hi
    obtain ⟨v, h1, h2⟩ := r.at_ i _ hi
    have hva : v = .ref a := by
      cases h2 with
      | d h => cases h
      | clo h => rw [hca] at h; cases h; rfl
    subst hva
    refine wpAny_Call_Name_kw (thn ((pe_var (pos := p1) (i := i) hN hv hd hcd).run pins s σ H (fun v H1 => v = .ref a ∧ H1 = H) I ⟨.ref a, h1, rfl, rfl⟩) fun u s1 ⟨v, H1, I1, r1, e1, e2⟩ => ?_)
    subst e1 e2
    obtain rfl : u = Value.ref a := r1
    refine PySem.W.callWith_F (ho.at_ _ _ _ _ (Rch.now I1 hex r.le)) (thn (ha.run pos pins s1 σ H1 _ I1 ⟨z, ρ, st, w, r, Pst.bnd (R' := Rps c.toCc) q⟩) fun us s2 ⟨vs, H2, I2, rv, z2, st2, ds, l2, w2, rd, q2⟩ => ?_) he hpl
    have rc := Rch.now I2 hex (r.mono l2).le
    exact ⟨ho.at_ _ _ _ _ rc, act_end tk I2 (ho.run X.A X.stack s2 H2 z2 st2 us vs ds Q _ hr I2.env0 rc w2 rv rd (PstC.of q2))⟩
  · exact q.elim
end
/-! ### a def, by its data -/
def spB (c : Cc) (T : List (Addr × Str)) (n : Nat) (g : List D → Store → Res D) : Sp := fun vs H Q E => vs.length = n ∧ ∃ z st ds, Wf c T z st H ∧ Rps c z vs ds ∧ PstC c T z (g ds st) Q E
/-- its first parameter is called -/
def FnC (P : Program) (w : World) (K : PySem.W.Frag) (mg : Str → Option Value) (base : Heap) (c : Cc) (T : List (Addr × Str)) (k : Nat) (f : Addr) (fd : FuncData) (ps : List Str) (g : Clo → List D → Store → Res D) : Prop :=
  ∀ (kc : Nat) (A : Around) (S : List PySem.Env) (s : Shared) (H : Hp) (args : Args) (us : List Value) (a : Addr) (vs : List V) (gc : Clo) (ds : List D) (z : Zw) (st : Store) (Q : VK) (E : XK), Room (k + kc) A → Env0 P w K mg base A S s H → BindsTo s fd args (ps.zip us) → Vals (.ref a :: vs) us → vs.length + 1 = ps.length →
    Clos P w K mg base c T kc S s H z a gc → Wf c T z st H → Rps c z vs ds → PstC c T z (g gc ds st) Q E → codeAny (model P w) A (.call (.ref f) args) (CR (L2.CX P w) S P w H s Q E) s
/-- the names at the entry -/
def envE (n : Nat) (ds : List (Option D)) : Env := ds ++ List.replicate (n - ds.length) none
theorem start_ok {c : Fc} {z : Zw} {N : List Str} {vs : List V} {ds : List D} (r : Rps c.toCc z vs ds) (h : vs.length ≤ N.length) (l : Lg c.z0 z) : Rσ c z (L2.start N vs) (envE N.length (ds.map some)) := by
  refine ⟨?_, fun i d e => ?_, l⟩
  · unfold L2.start envE
    simp only [List.length_append, List.length_map, List.length_replicate]
    rw [r.len]
  · unfold envE at e
    by_cases hi : i < ds.length
    · rw [List.getElem?_append_left (by simpa using hi), List.getElem?_map] at e
      cases hd : ds[i]? with
      | none => rw [hd] at e; cases e
      | some d' =>
        rw [hd] at e
        cases e
        obtain ⟨v, h1, h2⟩ := r.get hd
        refine ⟨v, ?_, .d h2⟩
        unfold L2.start
        rw [List.getElem?_append_left (by rw [List.length_map, r.len]; exact hi), List.getElem?_map, h1]
        rfl
    · rw [List.getElem?_append_right (by simpa using hi), List.getElem?_replicate] at e
      split at e <;> cases e
theorem start_okC {c : Fc} {z : Zw} {N : List Str} {a : Addr} {vs : List V} {ds : List D} (hca : c.ca = some a) (r : Rps c.toCc z vs ds) (h : vs.length + 1 ≤ N.length) (l : Lg c.z0 z) : Rσ c z (L2.start N (.ref a :: vs)) (envE N.length (some (.clo 0) :: ds.map some)) := by
  refine ⟨?_, fun i d e => ?_, l⟩
  · unfold L2.start envE
    simp only [List.length_append, List.length_map, List.length_replicate, List.length_cons]
    rw [r.len]
  · unfold envE at e
    cases i with
    | zero =>
      have e' : some (some (D.clo 0)) = some (some d) := e
      cases e'
      exact ⟨.ref a, rfl, .clo hca⟩
    | succ i =>
      by_cases hi : i < ds.length
      · rw [List.cons_append, List.getElem?_cons_succ, List.getElem?_append_left (by simpa using hi), List.getElem?_map] at e
        cases hd : ds[i]? with
        | none => rw [hd] at e; cases e
        | some d' =>
          rw [hd] at e
          cases e
          obtain ⟨v, h1, h2⟩ := r.get hd
          refine ⟨v, ?_, .d h2⟩
          unfold L2.start
          rw [List.map_cons, List.cons_append, List.getElem?_cons_succ, List.getElem?_append_left (by rw [List.length_map, r.len]; exact hi), List.getElem?_map, h1]
          rfl
      · rw [List.cons_append, List.getElem?_cons_succ, List.getElem?_append_right (by simpa using hi), List.getElem?_replicate] at e
        split at e <;> cases e
/-- what a body's outcome is to its caller -/
def bodyR (o : Out) : Res D := match o with
  | .nx _ st => .ok .non st
  | .rt d st => .ok d st
  | .er e _ st => .er e st
  | _ => .no
theorem body_ok {c : Fc} {T : List (Addr × Str)} {z : Zw} {o : Out} {Q : VK} {E : XK} (h : PstC c.toCc T z (bodyR o) Q E) : PstS c T (fun cls dd _ H => E cls dd H) z o { nx := fun _ H' => Q .non H', rt := Q } := by
  cases o with
  | nx ρ st => exact fun z' H' σ' l w r => h z' H' .non l w .non
  | rt d st => exact h
  | er e ρ st => exact fun z' H' σ' cls dd l w r eo => h z' H' cls dd l w eo
  | bk ρ st => exact h.elim
  | ct ρ st => exact h.elim
  | no => exact h.elim
section
variable {P : Program} {w : World} {K : PySem.W.Frag} {mg : Str → Option Value} {base : Heap} {k : Nat} {f : Addr} {name qual : Str} {params : Arguments} {body : List Stmt} {scope : Scope} {dV kV doc pm cdv ct oc : Value} {an od : Option Addr} {osl : Array (Option Value)} {N ps : List Str} {c : Cc} {T : List (Addr × Str)}
/-- a def of plain data -/
theorem fnB (lk : K.lookup f = some ⟨oc, od, .func (PySem.W.fnOf name qual params body scope dV kV doc pm an cdv ct), osl⟩) (hcd : PySem.W.codeIn K cdv qual = true) (S : FnScope N ps scope) (m : MS)
    (hbody : ∀ (A : Around) (S1 : List PySem.Env) (s : Shared) (H : Hp) (E : XK) (z : Zw), Room k (A.deeper (envOfC qual scope s.heap.objs.size f cdv)) → SsD (cxOf (L2.CX P w) P w K mg base N qual scope f cdv A S1 s H E) ⟨c, none, none, z⟩ T (fun cls dd _ H => E cls dd H) body m) :
    FnOk P w K mg base (L2.CX P w) (k + 1) f (PySem.W.fnOf name qual params body scope dV kV doc pm an cdv ct) ps (spB c T ps.length fun ds st => bodyR (m (envE N.length (ds.map some)) st)) := by
  have hle : ps.length ≤ N.length := by have := congrArg List.length S.pre; rw [List.length_take] at this; omega
  refine fn_of lk hcd S (fun vs H Q E h => h.1) fun A outer s H vs Q E hr ⟨hl, z, st, ds, w', rd, q⟩ => ⟨_, hbody A outer s H E z hr, z, _, st, w', start_ok rd (by rw [hl]; exact hle) (Lg.refl z), body_ok (c := ⟨c, none, none, z⟩) q⟩
/-- .. a token out when it begins -/
theorem fnBT (lk : K.lookup f = some ⟨oc, od, .func (PySem.W.fnOf name qual params body scope dV kV doc pm an cdv ct), osl⟩) (hcd : PySem.W.codeIn K cdv qual = true) (S : FnScope N ps scope) (m : MS) (hnc : ∀ y ∈ scope.names, y.2 ≠ .cell) (hps : 1 ≤ ps.length)
    (hbody : ∀ (A : Around) (S1 : List PySem.Env) (s : Shared) (H : Hp) (E : XK) (z : Zw), Room k (A.deeper (envOfC qual scope s.heap.objs.size f cdv)) → SsDT (cxOf (L2.CX P w) P w K mg base N qual scope f cdv A S1 s H E) ⟨c, none, none, z⟩ T (fun cls dd _ H => E cls dd H) body m) :
    FnOk P w K mg base (L2.CX P w) (k + 1) f (PySem.W.fnOf name qual params body scope dV kV doc pm an cdv ct) ps (spB c T ps.length fun ds st => bodyR (m (envE N.length (ds.map some)) st)) := by
  have hle : ps.length ≤ N.length := by have := congrArg List.length S.pre; rw [List.length_take] at this; omega
  refine fn_ofT lk hcd S hnc hps (fun vs H Q E h => h.1) fun A outer s H vs Q E hr ⟨hl, z, st, ds, w', rd, q⟩ => ⟨_, hbody A outer s H E z hr, z, _, st, w', start_ok rd (by rw [hl]; exact hle) (Lg.refl z), body_ok (c := ⟨c, none, none, z⟩) q⟩
/-- a def whose first parameter is called -/
theorem fnCl (lk : K.lookup f = some ⟨oc, od, .func (PySem.W.fnOf name qual params body scope dV kV doc pm an cdv ct), osl⟩) (hcd : PySem.W.codeIn K cdv qual = true) (S : FnScope N ps scope) (m : Clo → MS)
    (hbody : ∀ (kc : Nat) (A : Around) (S1 : List PySem.Env) (s : Shared) (H : Hp) (E : XK) (z : Zw) (a : Addr) (gc : Clo), Room (k + kc) (A.deeper (envOfC qual scope s.heap.objs.size f cdv)) → Clos P w K mg base c T kc S1 s H z a gc → SsD (cxOf (L2.CX P w) P w K mg base N qual scope f cdv A S1 s H E) ⟨c, some a, none, z⟩ T (fun cls dd _ H => E cls dd H) body (m gc)) :
    FnC P w K mg base c T (k + 1) f (PySem.W.fnOf name qual params body scope dV kV doc pm an cdv ct) ps (fun gc ds st => bodyR (m gc (envE N.length (some (.clo 0) :: ds.map some)) st)) := by
  have hle : ps.length ≤ N.length := by have := congrArg List.length S.pre; rw [List.length_take] at this; omega
  intro kc A S1 s H args us a vs gc ds z st Q E hr e0 hb rv hl hc w' rd q
  refine LamX.run_ofS (CX := L2.CX P w) (k := k + kc) lk hcd S (by rw [show k + kc + 1 = k + 1 + kc by omega]; exact hr) e0 hb rv (by rw [List.length_cons]; exact hl) fun hr' => ⟨_, hbody kc A S1 s H E z a gc hr' hc, z, _, st, w', start_okC (c := ⟨c, some a, none, z⟩) rfl rd (by omega) (Lg.refl z), body_ok (c := ⟨c, some a, none, z⟩) q⟩
end
/-! ### f(..) -/
def mCall (g : List D → Store → Res D) (a : MA) : ME := fun ρ st => (a ρ st).bind g
section
variable {X : Cx} {c : Fc} {T : List (Addr × Str)} {W : WX} {e : PySem.Expr} {es : List PySem.Expr} {mr : MA} {pos p : Pos} {k : Nat} {f : Addr} {fd : FuncData} {ps : List Str} {x : Str} {g : List D → Store → Res D}
theorem e_call (F : FnOk X.prog X.w X.K X.mg X.base (L2.CX X.prog X.w) k f fd ps (spB c.toCc T ps.length g)) (hr : Room k X.A) (hm : X.mg x = some (.ref f)) (hk : PySem.W.keepIn X.K (.ref f) = true) (hb : Binds X.K fd ps []) (tk : Takes X W) (ha : PA X (e :: es) (LA c T W mr)) (hn : (e :: es).length = ps.length := by rfl)
    (hg : Gl X x := by rfl) (hdb : (x == ("__debug__" : Str)) = false := by decide) (he : starEach (e :: es) X.env = (false, eval e X.env) :: starEach es X.env := by rfl) (hpl : (backTo pos (starEach es X.env)).any (·.1) = false := by rfl) : PD X c T W (.Call (.Name x p) (e :: es) [] pos) (mCall (fun ds st => if ds.length = ps.length then g ds st else .no) mr) :=
  imp_PE (pe_callS F hr hg hm hk hb (fun σ => passAt tk σ) ha hdb he hpl) fun σ H Q ⟨z, ρ, st, w, r, q⟩ => ⟨z, ρ, st, w, r, (Pst.bnd q).imp fun vs H1 ⟨z1, st1, ds, l1, w1, rs, q1⟩ => by
    split at q1
    · rename_i hl
      exact ⟨by rw [rs.len]; exact hl, z1, st1, ds, w1, rs, PstC.of q1⟩
    · exact q1.elim⟩
end
end Bw
set_option linter.all false
set_option autoImplicit false
set_option maxRecDepth 100000
set_option maxHeartbeats 2000000
/-! A lambda handed to a def. -/
namespace Bw
open PySem PySem.Spec PyProof.Rows L2
/-- a lambda's names: its parameters, captured ones, globals -/
structure LamP (sc scope : Scope) (as : List Str) : Prop where
  kind : scope.kind = .function
  co : scope.isCoroutine = false
  gen : scope.isGenerator = false
  cell : ∀ y ∈ scope.names, y.2 ≠ .cell
  own : ∀ y ∈ scope.names, y.2 = .local → y.1 ∈ as
  par : ∀ a ∈ as, scope.names.lookup a = some .local
  nd : as.Nodup
  free : ∀ y ∈ scope.names, y.2 = .free → sc.names.lookup y.1 = some .cell ∨ sc.names.lookup y.1 = some .free
def lamPB (sc scope : Scope) (as : List Str) : Bool :=
  decide (scope.kind = .function) && !scope.isCoroutine && !scope.isGenerator && (scope.names.all fun y => !decide (y.2 = .cell) && (!decide (y.2 = .local) || decide (y.1 ∈ as)) && (!decide (y.2 = .free) || decide (sc.names.lookup y.1 = some .cell) || decide (sc.names.lookup y.1 = some .free))) &&
    (as.all fun a => decide (scope.names.lookup a = some .local)) && decide as.Nodup
theorem lamP_by {sc scope : Scope} {as : List Str} (h : lamPB sc scope as = true) : LamP sc scope as := by
  unfold lamPB at h
  simp only [Bool.and_eq_true, Bool.or_eq_true, Bool.not_eq_true', decide_eq_true_eq, decide_eq_false_iff_not, List.all_eq_true] at h
  obtain ⟨⟨⟨⟨⟨h1, h2⟩, h3⟩, h4⟩, h5⟩, h6⟩ := h
  refine ⟨h1, h2, h3, fun y hy => (h4 y hy).1.1, fun y hy e => ((h4 y hy).1.2).resolve_left (fun z => z e), h5, h6, fun y hy e => ?_⟩
  rcases (h4 y hy).2 with (z | z) | z
  · exact absurd e z
  · exact .inl z
  · exact .inr z
def maskL {α : Type} (ms : List Bool) (l : List (Option α)) : List (Option α) := List.zipWith (fun b o => if b then o else none) ms l
theorem maskL_some {α : Type} : ∀ {ms : List Bool} {l : List (Option α)} {j : Nat} {v : α}, (maskL ms l)[j]? = some (some v) → ms[j]? = some true ∧ l[j]? = some (some v)
  | [], l, j, v, e => by simp [maskL] at e
  | b :: ms, [], j, v, e => by simp [maskL] at e
  | b :: ms, o :: l, 0, v, e => by
    have e' : some (if b then o else none) = some (some v) := e
    cases b with
    | true => exact ⟨rfl, e'⟩
    | false => cases e'
  | b :: ms, o :: l, j + 1, v, e => maskL_some (ms := ms) (l := l) (j := j) e
theorem maskL_len {α : Type} (ms : List Bool) (l : List (Option α)) : (maskL ms l).length = min ms.length l.length := by
  unfold maskL
  rw [List.length_zipWith]
/-- which names the lambda captures -/
def capt (N : List Str) (scope : Scope) : List Bool := N.map fun x => decide (scope.names.lookup x = some .free)
theorem lookup_of {u : Value} {a : Str} : ∀ {l : List (Str × Value)}, (a, u) ∈ l → (∀ v, (a, v) ∈ l → v = u) → l.lookup a = some u
  | [], h, _ => by cases h
  | (b, v) :: l, h, hu => by
    by_cases e : a = b
    · subst e
      have := hu v List.mem_cons_self
      subst this
      simp [List.lookup]
    · have hb : (a == b) = false := by simpa using e
      have hm : (a, u) ∈ l := by
        rcases List.mem_cons.mp h with q | q
        · exact absurd (Prod.mk.inj q).1 e
        · exact q
      simp only [List.lookup, hb]
      exact lookup_of hm fun v hv => hu v (List.mem_cons_of_mem _ hv)
theorem lookup_zip {as : List Str} {us : List Value} {i : Nat} {a : Str} {u : Value} (nd : as.Nodup) (h1 : as[i]? = some a) (h2 : us[i]? = some u) : (as.zip us).reverse.lookup a = some u := by
  refine lookup_of (List.mem_reverse.mpr (List.mem_of_getElem? (i := i) (by rw [List.getElem?_zip_eq_some]; exact ⟨h1, h2⟩))) fun v hv => ?_
  obtain ⟨j, hj⟩ := List.getElem?_of_mem (List.mem_reverse.mp hv)
  rw [List.getElem?_zip_eq_some] at hj
  have e := nodup_ix nd h1 hj.1
  subst e
  rw [h2] at hj
  exact (Option.some.inj hj.2).symm
abbrev lamEnv (X : Cx) (scope : Scope) (L f c' : Addr) : PySem.Env := PySem.W.envX (X.env.qual ++ "<lambda>") scope L f (.ref c') (cloFrom X.env.cells scope.names [])
/-- the context of its body, entered at s from the frames outer -/
def lamCx (X : Cx) (A : Around) (outer : List PySem.Env) (s : Shared) (H : Hp) (E : XK) (scope : Scope) (as : List Str) (f c' : Addr) : Cx where
  prog := X.prog
  w := X.w
  K := X.K
  mg := X.mg
  base := X.base
  A := A.deeper (lamEnv X scope s.heap.objs.size f c')
  N := as ++ X.N
  s_0 := s
  H_0 := H
  env := lamEnv X scope s.heap.objs.size f c'
  outer := outer
  stack := lamEnv X scope s.heap.objs.size f c' :: outer
  ex := []
  fn := fun _ => false
  calm := true
  pn := []
  xe := fun e s' => wpAny (model X.prog X.w) (A.deeper (lamEnv X scope s.heap.objs.size f c')) (leaving (lamEnv X scope s.heap.objs.size f c') e) (fun _ s'' => L2.CX X.prog X.w outer H s E e s'') (fun e' s'' => L2.CX X.prog X.w outer H s E e' s'') s'
section
variable {X : Cx} {pins : List (Addr × Obj)} {σ : L2.St} {H HZ : Hp} {s s1 : Shared}
theorem lam_has {scope : Scope} {as : List Str} (L : LamP X.env.scope scope as) (ok : X.Ok) : ∀ y ∈ scope.names, y.2 = .free → ∃ c, X.env.cells.lookup y.1 = some c := fun y hy e => by
  rcases L.free y hy e with k | k
  · exact ok.has _ (.inl k)
  · exact ok.has _ (.inr k)
theorem lam_begin {A : Around} {outer : List PySem.Env} {E : XK} {scope : Scope} {as : List Str} {f c' : Addr} {h1 : Heap} {tk : Nat} {us : List Value} {vs : List V} (I : L2.Inv X pins σ H s) (L : LamP X.env.scope scope as) (e0 : Env0 X.prog X.w X.K X.mg X.base A outer s1 HZ) (hd : A.handled = none) (rv : Vals vs us) (hl : vs.length = as.length)
    (un : Un (frs X.stack) [] H HZ s.heap s1.heap) (hns : h1.Ns s1.heap.objs.size fun y => (as.zip us).reverse.lookup y) (kp : ∀ b o, s1.heap.get? b = some o → h1.get? b = some o) :
    L2.Inv (lamCx X A outer s1 HZ E scope as f c') [] (vs.map some ++ maskL (capt X.N scope) σ) HZ { s1 with heap := h1, toks := tk } := by
  have hfree := lam_has L I.ok
  have cm : ∀ {y c}, (cloFrom X.env.cells scope.names []).lookup y = some c → X.env.cells.lookup y = some c := fun {y c} e => by
    rcases cloFrom_mem (PySem.mem_of_lookup e) with hm | ⟨q1, q2⟩
    · cases hm
    · obtain ⟨c1, hc⟩ := hfree _ q1 rfl
      have hc : X.env.cells.lookup y = some c1 := hc
      have e2 : c = c1 := by rw [q2, hc] <;> rfl
      rw [e2]
      exact hc
  have look : ∀ {y}, scope.names.lookup y = some .free → ∃ c, (cloFrom X.env.cells scope.names []).lookup y = some c := fun {y} hl => mem_lookup (cloFrom_has (cells := X.env.cells) (acc := []) (show (y, NameKind.free) ∈ scope.names from PySem.mem_of_lookup hl))
  have cellK : ∀ {c : Addr} {v : Option Value}, H c = none → s.heap.IsCell c v → h1.IsCell c v := fun {c v} n ⟨o, ho, hd⟩ => by
    obtain ⟨sl, q⟩ := un.any ho n (by simp)
    exact ⟨_, kp _ _ q, hd⟩
  have noA : ∀ b : Addr, b ∉ (lamCx X A outer s1 HZ E scope as f c').ex := fun b z => absurd (show b ∈ ([] : List Addr) from z) (by simp)
  refine ⟨⟨e0.mod, L.kind, rfl, rfl, Nat.le_refl _, fun y z c q1 q2 => I.ok.inj y z c (cm q1) (cm q2), fun y hy => ?_, fun y c z _ => ?_, fun _ => hd, Around.frames_deeper e0.frames, .inr ⟨rfl, rfl⟩, fun b z => absurd z (noA b), e0.bs, e0.bsz, fun b _ _ => noA b, fun b z => absurd z (noA b), e0.funs, e0.frf⟩,
    rfl, e0.bare, Un.kept kp, ⟨_, hns, fun i y v q1 q2 q3 => ?_⟩, fun y c e => ?_, e0.hok.fresh (Nat.le_refl _), fun y c e => ?_, fun q hq => absurd (show q ∈ ([] : List (Addr × Obj)) ++ [] from hq) (by simp), e0.hok.kept kp, ?_⟩
  · have hy : scope.names.lookup y = some .cell ∨ scope.names.lookup y = some .free := hy
    rcases hy with hy | hy
    · exact absurd rfl (L.cell _ (PySem.mem_of_lookup hy))
    · exact look hy
  · have z : false = true := z
    cases z
  · have q1 : (as ++ X.N)[i]? = some y := q1
    have q3 : Vis scope y := q3
    by_cases hi : i < as.length
    · rw [List.getElem?_append_left hi] at q1
      rw [List.getElem?_append_left (by rw [List.length_map, hl]; exact hi), List.getElem?_map] at q2
      cases hv : vs[i]? with
      | none => rw [hv] at q2; cases q2
      | some v0 =>
        rw [hv] at q2
        cases q2
        obtain ⟨u, hu, ru⟩ := rv.get hv
        exact ⟨u, ru, .inl ⟨L.par y (List.mem_of_getElem? q1), lookup_zip L.nd q1 hu⟩⟩
    · have hi' : as.length ≤ i := Nat.le_of_not_lt hi
      rw [List.getElem?_append_right hi'] at q1
      rw [List.getElem?_append_right (by rw [List.length_map, hl]; exact hi'), List.length_map, hl] at q2
      obtain ⟨m1, m2⟩ := maskL_some q2
      unfold capt at m1
      rw [List.getElem?_map, q1] at m1
      have k : scope.names.lookup y = some .free := of_decide_eq_true (Option.some.inj m1)
      obtain ⟨m, hn, hlk⟩ := I.loc
      have hvis : Vis X.env.scope y := (L.free _ (PySem.mem_of_lookup k) rfl).elim (fun k => .inr (.inl k)) (fun k => .inr (.inr k))
      obtain ⟨w', r, q⟩ := hlk _ y v q1 m2 hvis
      obtain ⟨c2, h2⟩ := look k
      refine ⟨w', r, .inr ⟨.inr k, c2, h2, ?_⟩⟩
      have c1 := cm h2
      rcases q with ⟨k', _⟩ | ⟨_, c3, e', z⟩
      · have k' : X.env.scope.names.lookup y = some .local := k'
        rcases L.free _ (PySem.mem_of_lookup k) rfl with k2 | k2 <;> rw [show X.env.scope.names.lookup y = _ from k2] at k' <;> cases k'
      · rw [c1] at e'
        cases e'
        exact cellK (I.freeC y _ c1) z
  · obtain ⟨w', z⟩ := I.cell y c (cm e)
    exact ⟨w', cellK (I.freeC y c (cm e)) z⟩
  · obtain ⟨v, o, ho, hd⟩ := I.cell y c (cm e)
    exact un.free c o ho (I.freeC y c (cm e)) (by simp)
  · show (vs.map some ++ maskL (capt X.N scope) σ).length = (as ++ X.N).length
    rw [List.length_append, List.length_append, List.length_map, maskL_len, hl, I.len]
    unfold capt
    rw [List.length_map, Nat.min_self]
/-- the default, where there is one: None -/
def DfOk (dn : Bool) (dV : Value) (h : Heap) : Prop := if dn = true then ∃ T0, dV = .ref T0 ∧ h.get? T0 = some { cls := .type "tuple", data := .seq #[.none] } else dV = .none
def dfU (dn : Bool) : List Value := if dn = true then [.none] else []
def dfV (dn : Bool) : List V := if dn = true then [.non] else []
def dfD (dn : Bool) : List D := if dn = true then [.non] else []
theorem df_len {dn : Bool} : (dfU dn).length = (dfD dn).length ∧ (dfV dn).length = (dfD dn).length := by cases dn <;> exact ⟨rfl, rfl⟩
theorem df_vals (dn : Bool) : Vals (dfV dn) (dfU dn) := by
  cases dn
  · exact .nil
  · exact .cons rfl .nil
theorem df_rps {c : Cc} {z : Zw} (dn : Bool) : Rps c z (dfV dn) (dfD dn) := by
  cases dn
  · exact .nil
  · exact .cons .non .nil
/-- how its arguments are bound -/
def LamBind (dn : Bool) (n : Nat) (as : List Str) (params : Arguments) (body : PySem.Expr) (scope : Scope) : Prop := as.length = n + (dfD dn).length ∧ ∀ (q : Str) (cl : List (Str × Addr)) (pm cdv ct dV : Value) (s : Shared) (us : List Value), us.length = n → DfOk dn dV s.heap →
  BindsTo s (BwX.lamFn dV q params body scope cl pm cdv ct) ⟨us, []⟩ (as.zip (us ++ dfU dn))
/-- what a lambda does: its body by data, the captured values as they stood -/
def lamD (dn : Bool) (n : Nat) (ms : List Bool) (mb : ME) (ρ : Env) : Clo := fun ds st => if ds.length = n then mb ((ds ++ dfD dn).map some ++ maskL ms ρ) st else .no
theorem lam_env {c : Fc} {z z1 : Zw} {σ : L2.St} {ρ : Env} {ms : List Bool} {vs : List V} {ds : List D} (r : Rσ c z σ ρ) (l : Lg z z1) (rd : Rps c.toCc z1 vs ds) : Rσ { c with z0 := z1 } z1 (vs.map some ++ maskL ms σ) (ds.map some ++ maskL ms ρ) := by
  refine ⟨by rw [List.length_append, List.length_append, List.length_map, List.length_map, maskL_len, maskL_len, rd.len, r.len], fun i d e => ?_, Lg.refl z1⟩
  by_cases hi : i < ds.length
  · rw [List.getElem?_append_left (by simpa using hi), List.getElem?_map] at e
    cases hd : ds[i]? with
    | none => rw [hd] at e; cases e
    | some d' =>
      rw [hd] at e
      cases e
      obtain ⟨v, h1, h2⟩ := rd.get hd
      exact ⟨v, by rw [List.getElem?_append_left (by rw [List.length_map, rd.len]; exact hi), List.getElem?_map, h1]; rfl, .d h2⟩
  · have hi' : ds.length ≤ i := Nat.le_of_not_lt hi
    rw [List.getElem?_append_right (by rw [List.length_map]; exact hi'), List.length_map] at e
    obtain ⟨m1, m2⟩ := maskL_some e
    obtain ⟨v, h1, h2⟩ := r.at_ _ d m2
    refine ⟨v, ?_, ?_⟩
    · rw [List.getElem?_append_right (by rw [List.length_map, rd.len]; exact hi'), List.length_map, rd.len]
      unfold maskL
      rw [List.getElem?_zipWith, m1, h1]
      rfl
    · cases h2 with
      | d h => exact .d (h.monoG l)
      | clo h => exact .clo h
      | exc h => exact .exc h
abbrev Fc.at (c : Fc) (z : Zw) : Fc := { c with z0 := z }
theorem lam_clos {c : Fc} {T : List (Addr × Str)} {scope : Scope} {as : List Str} {params : Arguments} {body : PySem.Expr} {dn : Bool} {n k : Nat} {mb : ME} {f c' : Addr} {dV pm ct : Value} {z : Zw} {ρ : Env} (I : L2.Inv X pins σ H s) (L : LamP X.env.scope scope as) (hB : LamBind dn n as params body scope) (r : Rσ c z σ ρ) (hex : X.ex = [])
    (hf : s.heap.get? f = some (BwX.lamObj dV (X.env.qual ++ "<lambda>") params body scope (cloFrom X.env.cells scope.names []) pm c' ct)) (hfn : H f = none) (hfr : f ∉ frs X.stack) (hG : z.G c' = some (LamX.CodeO c' (X.env.qual ++ "<lambda>"))) (hdf : DfOk dn dV s.heap) (hdn : ∀ T0, dV = .ref T0 → H T0 = none ∧ T0 ∉ frs X.stack)
    (hbody : ∀ (A : Around) (outer : List PySem.Env) (s1 : Shared) (H1 : Hp) (E : XK) (f c' : Addr) (z1 : Zw), Room k (A.deeper (lamEnv X scope s1.heap.objs.size f c')) → (∀ kc a gc, Clos X.prog X.w X.K X.mg X.base c.toCc T kc X.outer X.s_0 X.H_0 c.z0 a gc → Clos X.prog X.w X.K X.mg X.base c.toCc T kc outer s1 H1 z1 a gc) →
      PD (lamCx X A outer s1 H1 E scope as f c') (c.at z1) T (fun cls dd _ H => E cls dd H) body mb) : Clos X.prog X.w X.K X.mg X.base c.toCc T (k + 1) X.stack s H z f (lamD dn n (capt X.N scope) mb ρ) := by
  have at1 : ∀ {S1 : List PySem.Env} {s1 : Shared} {H1 : Hp} {z1 : Zw}, Rch X.stack s H z S1 s1 H1 z1 → s1.heap.get? f = some (BwX.lamObj dV (X.env.qual ++ "<lambda>") params body scope (cloFrom X.env.cells scope.names []) pm c' ct) := fun rc => rc.un.keep f _ hf hfn hfr (by simp)
  refine ⟨fun S1 s1 H1 z1 rc => ⟨_, _, _, _, at1 rc⟩, fun A S1 s1 H1 z1 st us vs ds Q E hr e0 rc w rv rd q => ?_⟩
  unfold lamD at q
  split at q
  · rename_i hn
    have hc : H1 c' = some (LamX.CodeO c' (X.env.qual ++ "<lambda>")) := w.sub _ _ (rc.z.g _ _ hG)
    obtain ⟨⟨oc, fv, t, hoc, hdc, hvc⟩, _, _⟩ := e0.hok c' _ hc
    have hun : us.length = n := by rw [← rv.length, rd.len]; exact hn
    have hdf1 : DfOk dn dV s1.heap := by
      unfold DfOk at hdf ⊢
      split
      · rename_i hd
        rw [if_pos hd] at hdf
        obtain ⟨T0, e, hT⟩ := hdf
        obtain ⟨n1, n2⟩ := hdn T0 e
        exact ⟨T0, e, rc.un.keep T0 _ hT n1 n2 (by simp)⟩
      · rename_i hd
        rw [if_neg hd] at hdf
        exact hdf
    have rv' : Vals (vs ++ dfV dn) (us ++ dfU dn) := rv.append (df_vals dn)
    have hlen : (vs ++ dfV dn).length = as.length := by
      rw [List.length_append, rd.len, hn, df_len.2, hB.1]
    have lim : s1.heap.NoLimit := e0.mod.nolimit.keeps fun b o e => (e0.bs b o e).1
    refine PySem.W.kla_callFunE hr.depth (at1 rc) rfl L.co L.gen rfl ⟨c', oc, fv, t, rfl, hoc, hdc, hvc⟩ ?_
    refine hB.2 (X.env.qual ++ "<lambda>") (cloFrom X.env.cells scope.names []) pm (.ref c') ct dV s1 us hun hdf1 _ _ _ _ ?_
    refine wpAny_newFunctionEnv (fun y hy => L.cell y hy) (fun y hy => L.par y.1 (List.of_mem_zip hy).1) (fun h1 hns hsb => ⟨lim.fresh _ hsb, ?_⟩) L.kind
    show codeAny _ _ (.expr body (lamEnv X scope s1.heap.objs.size f c')) _ _
    have kp : ∀ b o, s1.heap.get? b = some o → h1.get? b = some o := fun b o e => hsb.extBut b o (Nat.ne_of_lt (Heap.lt_size e)) (Heap.get?_push_of_some _ e)
    have J := lam_begin (tk := s1.toks + (as.zip (us ++ dfU dn)).length) (E := E) (f := f) (c' := c') I L e0 hr.hd rv' hlen rc.un hns kp
    have rw1 : Rσ (c.at z1) z1 ((vs ++ dfV dn).map some ++ maskL (capt X.N scope) σ) ((ds ++ dfD dn).map some ++ maskL (capt X.N scope) ρ) := lam_env r rc.z (rd.app (df_rps dn))
    have hb := hbody A S1 s1 H1 E f c' z1 (hr.deeper _) (fun kc a gc h => h.at' ((Rch.now I hex r.le).trans rc))
    refine PySem.W.kla_codeExpr (wpAny_mono (hb.run [] _ _ H1 Q J ⟨z1, _, st, w, rw1, PstC.to (c := c.at z1) q⟩) (fun v s' hq => ?_) fun e s' hq => hq)
    obtain ⟨w', H', J', rv2, q2⟩ := hq
    exact ⟨w', H', J'.os, J'.bare, J'.base, J'.hok, rv2, q2⟩
  · exact q.elim
end
end Bw
set_option linter.all false
set_option autoImplicit false
set_option maxRecDepth 100000
set_option maxHeartbeats 2000000
/-! f(lambda ..: .., e, ..). -/
namespace Bw
open PySem PySem.Spec PyProof.Rows L2 LamX
section
variable {c : Cc} {T : List (Addr × Str)} {z : Zw} {st : Store} {H H1 : Hp}
theorem Wf.tables {P : Addr} {q : Str} (w : Wf c T z st H) (hm : (P, q) ∈ T) (k : ∀ b o, b ≠ P → H b = some o → H1 b = some o) (t : Tabs T H1) : Wf c T z st H1 := by
  obtain ⟨n1, n2⟩ := w.noT _ hm
  refine ⟨fun a o e => k a o (fun h => by rw [h] at e; rw [n1] at e; cases e) (w.sub a o e), w.len, w.nd, fun n a o e1 e2 => ?_, t, w.noT, fun a o e => ?_⟩
  · obtain ⟨h1, h2⟩ := w.obj n a o e1 e2
    have ne : a ≠ P := fun h => n2 (h ▸ List.mem_of_getElem? e1)
    refine ⟨h1, h2.mono (Le.refl z) ?_⟩
    cases e : H a with
    | none => exact absurd e h2.stands
    | some u => exact k a u ne e
  · obtain ⟨h1, h0, h2, h3, h4⟩ := w.fr a o e
    exact ⟨k a o (fun h => h3 _ hm h.symm) h1, h0, h2, h3, h4⟩
/-- a code object is known -/
theorem Wf.know {p : Addr} {q : Str} (w : Wf c T z st H) (hp : H p = some (CodeO p q)) : Le z (z.lay p (CodeO p q)) ∧ Wf c T (z.lay p (CodeO p q)) st H := by
  have hg : ∀ o, z.G p = some o → o = CodeO p q := fun o e => by
    have := w.sub p o e
    rw [hp] at this
    exact (Option.some.inj this).symm
  have nl : ∀ vs, CodeO p q ≠ .lst vs := fun vs e => by unfold CodeO at e; cases e
  have lz : Le z (z.lay p (CodeO p q)) := ⟨fun a u e => by
    show upd z.G p (CodeO p q) a = _
    by_cases h : a = p
    · subst h
      rw [upd_same, hg u e]
    · rw [upd_ne h]; exact e, ⟨[], (List.append_nil _).symm⟩, rfl⟩
  have nμ : p ∉ z.μ := fun hm => by
    obtain ⟨n, e⟩ := List.getElem?_of_mem hm
    have hl : n < st.length := by rw [← w.len]; exact (List.getElem?_eq_some_iff.mp e).1
    have h2 := (w.obj n p _ e (List.getElem?_eq_getElem hl)).2
    cases h : st[n] with
    | lst ds =>
      rw [h] at h2
      obtain ⟨vs, x, _⟩ := h2
      rw [hp] at x
      exact nl vs (Option.some.inj x)
    | ins cl fs =>
      rw [h] at h2
      obtain ⟨C, dx, vs, _, x, _⟩ := h2
      rw [hp] at x
      have := Option.some.inj x
      unfold CodeO at this
      cases this
  have nT : ∀ r ∈ T, r.1 ≠ p := fun r hr h => by
    obtain ⟨ps, e, _⟩ := w.tab r hr
    rw [h, hp] at e
    exact codeO_ne ps (Option.some.inj e)
  refine ⟨lz, fun a o e => ?_, w.len, w.nd, fun n a o e1 e2 => ?_, w.tab, fun r hr => ⟨?_, (w.noT r hr).2⟩, fun a o e => ?_⟩
  · have e' : upd z.G p (CodeO p q) a = some o := e
    by_cases h : a = p
    · subst h
      rw [upd_same] at e'
      cases e'
      exact hp
    · rw [upd_ne h] at e'
      exact w.sub a o e'
  · obtain ⟨h1, h2⟩ := w.obj n a o e1 e2
    have ne : a ≠ p := fun h => nμ (h ▸ List.mem_of_getElem? e1)
    exact ⟨by show upd z.G p (CodeO p q) a = none; rw [upd_ne ne]; exact h1, h2.mono lz rfl⟩
  · show upd z.G p (CodeO p q) r.1 = none
    rw [upd_ne (nT r hr)]
    exact (w.noT r hr).1
  · obtain ⟨h1, h0, h2, h3, vs, h4⟩ := w.fr a o e
    have ne : a ≠ p := fun h => by
      rw [h, hp] at h1
      have := Option.some.inj h1
      rw [h4] at this
      exact nl vs this
    exact ⟨h1, by show upd z.G p (CodeO p q) a = none; rw [upd_ne ne]; exact h0, h2, h3, vs, h4⟩
end
def mLam (G : Clo → List D → Store → Res D) (dn : Bool) (n : Nat) (ms : List Bool) (mb : ME) (mr : MA) : ME := fun ρ st => (mr ρ st).bind fun ds st' => G (lamD dn n ms mb ρ) ds st'
section
variable {X : Cx} {c : Fc} {T : List (Addr × Str)} {W : WX} {es : List PySem.Expr} {mr : MA} {pos p lpos : Pos}
/-- how the defaults are written -/
def DfEx (dn : Bool) (params : Arguments) (env : PySem.Env) : Prop := if dn = true then ∃ j cp, defaultsOf params env = ([eval (.Constant .none j cp) env], []) else defaultsOf params env = ([], [])
theorem lam_eval {pins : List (Addr × Obj)} {σ : L2.St} {H : Hp} {s : Shared} {cA P : Addr} {params : Arguments} {body : PySem.Expr} {scope : Scope} {dn : Bool} {E : Value → Shared → Prop} {Q : Value → Shared → Prop} (I : L2.Inv X pins σ H s) (TB : TabB X.base X.mg cA P) (hcode : X.env.code = .ref cA)
    (hm : (P, X.env.qual ++ "<lambda>") ∈ T) (hu : ∀ p ∈ T, p.1 = P → p.2 = X.env.qual ++ "<lambda>") (hT : Tabs T H) (hfree : ∀ y ∈ scope.names, y.2 = .free → ∃ c, X.env.cells.lookup y.1 = some c) (hd : DfEx dn params X.env)
    (h : ∀ (f c' : Addr) (dV pm ctv : Value) (H1 : Hp) (s' : Shared), L2.Inv X pins σ H1 s' → (∀ b o, b ≠ P → H b = some o → H1 b = some o) → Tabs T H1 → s'.heap.get? f = some (BwX.lamObj dV (X.env.qual ++ "<lambda>") params body scope (cloFrom X.env.cells scope.names []) pm c' ctv) → H1 f = none → f ∉ frs X.stack → H1 c' = some (CodeO c' (X.env.qual ++ "<lambda>")) →
      DfOk dn dV s'.heap → (∀ T0, dV = .ref T0 → H1 T0 = none ∧ T0 ∉ frs X.stack) → Q (.ref f) s') : wpAny (model X.prog X.w) X.A (eval (.Lambda params body scope lpos) X.env) Q E s := by
  obtain ⟨ps, hP, _⟩ := hT _ hm
  have hP' : s.heap.get? P = some { cls := .none, data := .fields ps } := I.hok P _ hP
  cases dn with
  | false =>
    have hd : defaultsOf params X.env = ([], []) := hd
    refine PySem.W.kla_eval hd ?_
    rw [makeFunction_eq]
    simp only [List.zip_nil_right, List.filterMap_nil, List.isEmpty_nil, if_true, pure_bind]
    refine lam_tail I TB hcode hm hu hT hfree fun f c' pm ctv H1 s' I1 k1 t1 k2 k3 hf hfn hfr hco => h f c' .none pm ctv H1 s' I1 k1 t1 hf hfn hfr hco rfl fun T0 e => nomatch e
  | true =>
    obtain ⟨j, cp, hd⟩ : ∃ j cp, defaultsOf params X.env = ([eval (.Constant .none j cp) X.env], []) := hd
    rw [arm_eval_Lambda, hd]
    show wpAny _ _ (do let dv ← evalAll [eval (.Constant .none j cp) X.env]; let kdv ← holding dv (evalAllOpt []); makeFunction "<lambda>" (X.env.qual ++ "<lambda>") params (.expr body) scope X.env dv kdv [] lpos lpos.line) Q E s
    refine wpAny_bind (wpAny_evalAll_cons (Constant_none (wpAny_evalAll_nil ?_)))
    refine wpAny_bind (wpAny_holding (wpAny_pure ?_))
    rw [makeFunction_eq]
    simp only [List.zip_nil_right, List.filterMap_nil, List.isEmpty_nil, List.isEmpty_cons, Bool.false_eq_true, if_false, if_true, pure_bind]
    refine wpAny_bind (wpAny_newTextTuple ?_)
    have I0 : L2.Inv X pins σ H { s with heap := s.heap.push { cls := .type "tuple", data := .seq [Value.none].toArray } } := I.kept (t' := s.toks) fun b o e => Heap.get?_push_of_some _ e
    have nofr : s.heap.objs.size ∉ frs X.stack := fun z => by
      rcases List.mem_cons.mp (I.stkSub _ z) with e | e
      · have := I.lt
        rw [← e] at this
        exact Nat.lt_irrefl _ this
      · exact I.nofs (Nat.le_refl _) e
    have hT0 : (s.heap.push { cls := .type "tuple", data := .seq [Value.none].toArray }).get? s.heap.objs.size = some { cls := .type "tuple", data := .seq [Value.none].toArray } := Heap.get?_push_size _ rfl
    refine lam_tail I0 TB hcode hm hu hT hfree fun f c' pm ctv H1 s' I1 k1 t1 k2 k3 hf hfn hfr hco => h f c' (.ref s.heap.objs.size) pm ctv H1 s' I1 k1 t1 hf hfn hfr hco ?_ fun T0 e => ?_
    · exact ⟨_, rfl, k2 _ _ (Nat.ne_of_gt (Heap.lt_size hP')) hT0⟩
    · cases e
      exact ⟨k3 _ _ hT0 (I.hok.fresh (Nat.le_refl _)), nofr⟩
theorem e_lam {x : Str} {g cA P : Addr} {k kb : Nat} {fd : FuncData} {ps : List Str} {G : Clo → List D → Store → Res D} {params : Arguments} {body : PySem.Expr} {scope : Scope} {as : List Str} {dn : Bool} {n : Nat} {mb : ME} (F : FnC X.prog X.w X.K X.mg X.base c.toCc T k g fd ps G) (hr : Room (k + (kb + 1)) X.A) (hm : X.mg x = some (.ref g)) (hk : PySem.W.keepIn X.K (.ref g) = true)
    (hb : Binds X.K fd ps []) (tk : Takes X W) (TB : TabB X.base X.mg cA P) (hcode : X.env.code = .ref cA) (hmT : (P, X.env.qual ++ "<lambda>") ∈ T) (hu : ∀ p ∈ T, p.1 = P → p.2 = X.env.qual ++ "<lambda>") (hs : X.stack = X.env :: X.outer) (hfm : X.env.frame = some X.env.locals) (hex : X.ex = [])
    (L : LamP X.env.scope scope as) (hB : LamBind dn n as params body scope) (hd : DfEx dn params X.env) (hn : es.length + 1 = ps.length)
    (hbody : ∀ (A : Around) (outer : List PySem.Env) (s1 : Shared) (H1 : Hp) (E : XK) (f c' : Addr) (z1 : Zw), Room kb (A.deeper (lamEnv X scope s1.heap.objs.size f c')) → (∀ kc a gc, Clos X.prog X.w X.K X.mg X.base c.toCc T kc X.outer X.s_0 X.H_0 c.z0 a gc → Clos X.prog X.w X.K X.mg X.base c.toCc T kc outer s1 H1 z1 a gc) →
      PD (lamCx X A outer s1 H1 E scope as f c') (c.at z1) T (fun cls dd _ H => E cls dd H) body mb)
    (ha : PA X es (LA c T W mr)) (hg : Gl X x := by rfl) (hdb : (x == ("__debug__" : Str)) = false := by decide) (he : starEach (.Lambda params body scope lpos :: es) X.env = (false, eval (.Lambda params body scope lpos) X.env) :: starEach es X.env := by rfl) (hpl : (backTo pos (starEach es X.env)).any (·.1) = false := by rfl) :
    PD X c T W (.Call (.Name x p) (.Lambda params body scope lpos :: es) [] pos) (mLam (fun gc ds st => if ds.length + 1 = ps.length then G gc ds st else .no) dn n (capt X.N scope) mb mr) := by
  refine ⟨fun pins s σ H Q I ⟨z, ρ, st, w, r, q⟩ => ?_⟩
  refine wpAny_Call_Name_kw (ld_glob I hg hm ?_ hdb)
  refine PySem.W.callWith_K (h₀ := X.base) I.ok.mod.kin hk ?_ he hpl
  rw [he]
  show wpAny _ _ (spliced ((false, eval (.Lambda params body scope lpos) X.env) :: backTo pos (starEach es X.env))) _ _ s
  refine Calls.spliced_cons (lam_eval I TB hcode hmT hu w.tab (lam_has L I.ok) hd fun f c' dV pm ctv H1 s1 I1 k1 t1 hf hfn hfr hco hdf hdn => ?_)
  obtain ⟨lc, wc⟩ := (w.tables hmT k1 t1).know hco
  have notL : ∀ a, a ∉ frs X.stack → a ≠ X.env.locals ∧ a ∉ X.fs := fun a h => ⟨fun e => h (by rw [hs]; exact List.mem_filterMap.mpr ⟨X.env, List.mem_cons_self, by rw [hfm, e]⟩), fun e => h (by
    rw [hs]
    obtain ⟨e0, h1, h2⟩ := List.mem_filterMap.mp e
    exact List.mem_filterMap.mpr ⟨e0, List.mem_cons_of_mem _ h1, h2⟩)⟩
  -- the lambda's own things are pinned while the other arguments come
  obtain ⟨lp, hlp, hp1, hp2, hp3⟩ : ∃ lp : List (Addr × Obj), (∀ q ∈ lp, s1.heap.get? q.1 = some q.2 ∧ H1 q.1 = none ∧ q.1 ≠ X.env.locals ∧ q.1 ∉ X.fs ∧ ∀ v, q.2.data ≠ .cell v) ∧ (f, BwX.lamObj dV (X.env.qual ++ "<lambda>") params body scope (cloFrom X.env.cells scope.names []) pm c' ctv) ∈ lp ∧ (∀ h, (∀ q ∈ lp, h q.1 = some q.2) → ∀ hh : Heap, hh.get? = h → DfOk dn dV hh) ∧ (∀ T0, dV = .ref T0 → ∃ o, (T0, o) ∈ lp) := by
    cases dn with
    | false => exact ⟨[(f, _)], fun q hq => by
        rw [List.mem_singleton] at hq
        subst hq
        exact ⟨hf, hfn, (notL f hfr).1, (notL f hfr).2, fun v e => nomatch e⟩, List.mem_cons_self, fun h _ hh _ => hdf, fun T0 e => by
          have hdf : dV = .none := hdf
          rw [hdf] at e
          cases e⟩
    | true =>
      obtain ⟨T0, e, hT⟩ := hdf
      obtain ⟨n1, n2⟩ := hdn T0 e
      exact ⟨[(f, _), (T0, _)], fun q hq => by
        rcases List.mem_cons.mp hq with rfl | hq
        · exact ⟨hf, hfn, (notL f hfr).1, (notL f hfr).2, fun v e => nomatch e⟩
        · rw [List.mem_singleton] at hq
          subst hq
          exact ⟨hT, n1, (notL T0 n2).1, (notL T0 n2).2, fun v e => nomatch e⟩, List.mem_cons_self, fun h hq hh eh => ⟨T0, e, by rw [eh]; exact hq (T0, _) (by simp)⟩, fun T1 e1 => by
          rw [e] at e1
          cases e1
          exact ⟨_, List.mem_cons_of_mem _ List.mem_cons_self⟩⟩
  have I1p : L2.Inv X (pins ++ lp) σ H1 s1 := I1.pins_of fun q hq => (List.mem_append.mp hq).elim (fun hq => I1.pin q (List.mem_append_right _ hq)) (hlp q)
  have q' : Pst (Rp c.toCc) c T W z σ ((mr ρ st).bind fun ds st' => if ds.length + 1 = ps.length then G (lamD dn n (capt X.N scope) mb ρ) ds st' else .no) Q := q
  refine thn (ha.run pos (pins ++ lp) s1 σ H1 _ I1p ⟨_, ρ, st, wc, r.mono lc, Pst.bnd (R' := Rps c.toCc) (q'.le lc)⟩) fun us s2 ⟨vs, H2, I2, rv, z2, st2, ds, l2, w2, rd, q2⟩ => ⟨I2.kIn, ?_⟩
  split at q2
  · rename_i hl
    have pin2 : ∀ q ∈ lp, s2.heap.get? q.1 = some q.2 ∧ H2 q.1 = none := fun q hq =>
      let x := I2.pin q (List.mem_append_right _ (List.mem_append_right _ hq))
      ⟨x.1, x.2.1⟩
    have I3 : L2.Inv X pins σ H2 s2 := I2.unpinned
    have r2 : Rσ c z2 σ ρ := (r.mono lc).mono l2
    have hG : z2.G c' = some (CodeO c' (X.env.qual ++ "<lambda>")) := l2.g _ _ (show upd z.G c' _ c' = _ from upd_same)
    have hdf2 : DfOk dn dV s2.heap := hp2 s2.heap.get? (fun q hq => (pin2 q hq).1) s2.heap rfl
    have hdn2 : ∀ T0, dV = .ref T0 → H2 T0 = none ∧ T0 ∉ frs X.stack := fun T0 e => by
      obtain ⟨n1, n2⟩ := hdn T0 e
      obtain ⟨o, ho⟩ := hp3 T0 e
      exact ⟨(pin2 _ ho).2, n2⟩
    have cl := lam_clos (k := kb) I3 L hB r2 hex (pin2 _ hp1).1 (pin2 _ hp1).2 hfr hG hdf2 hdn2 hbody
    have hvl : vs.length + 1 = ps.length := by rw [rd.len]; exact hl
    have hul : (Value.ref f :: us ++ []).length = ps.length := by
      rw [List.append_nil, List.length_cons, ← rv.length]
      exact hvl
    have hbt := hb s2 (.ref f :: us) I3.kIn hul
    rw [List.append_nil] at hbt
    exact act_end tk I3 (F (kb + 1) X.A X.stack s2 H2 ⟨.ref f :: us, []⟩ (.ref f :: us) f vs _ ds z2 st2 Q _ hr I3.env0 hbt (.cons rfl rv) hvl cl w2 rd (PstC.of q2))
  · exact q2.elim
end
end Bw
set_option linter.all false
set_option autoImplicit false
set_option maxRecDepth 100000
set_option maxHeartbeats 2000000
/-! Names for operators, defs of the text, weaker promises. -/
namespace Bw
open PySem PySem.Spec PyProof.Rows L2
/-! ### operators -/
abbrev fAdd : D → D → Store → Option D := fun a b _ => addD a b
abbrev fSub : D → D → Store → Option D := fun a b _ => subD a b
abbrev fMul : D → D → Store → Option D := fun a b _ => mulD a b
abbrev fDiv : D → D → Store → Option D := fun a b _ => divD a b
abbrev fMod : D → D → Store → Option D := fun a b _ => modD a b
abbrev fPow : D → D → Store → Option D := fun a b _ => powD a b
abbrev fShl : D → D → Store → Option D := fun a b _ => shlD a b
abbrev fEq : D → D → Store → Option D := fun a b st => (eqv st a b).map D.bl
abbrev fNe : D → D → Store → Option D := fun a b st => (eqv st a b).map fun k => D.bl (!k)
abbrev fLt : D → D → Store → Option D := fun a b _ => (ltD a b).map D.bl
abbrev fLe : D → D → Store → Option D := fun a b _ => (leD a b).map D.bl
abbrev fGt : D → D → Store → Option D := fun a b _ => (gtD a b).map D.bl
abbrev fGe : D → D → Store → Option D := fun a b _ => (geD a b).map D.bl
abbrev fIsN : D → D → Store → Option D := fun a b _ => match b with | .non => (isNone a).map D.bl | _ => none
abbrev fNotN : D → D → Store → Option D := fun a b _ => match b with | .non => (isNone a).map fun k => D.bl (!k) | _ => none
abbrev fIsB : D → D → Store → Option D := fun a b _ => match b with | .bl b => (isBool b a).map D.bl | _ => none
abbrev fNotB : D → D → Store → Option D := fun a b _ => match b with | .bl b => (isBool b a).map fun k => D.bl (!k) | _ => none
abbrev fIn : D → D → Store → Option D := fun a b st => (inD st a b).map D.bl
abbrev fNotIn : D → D → Store → Option D := fun a b st => (inD st a b).map fun k => D.bl (!k)
section
variable {X : Cx} {c : Fc} {T : List (Addr × Str)} {W : WX} {pos : Pos}
theorem e_gstr (s : List Nat) {x : Str} {y : Str} {t : Tok} (hm : X.mg x = some (.str y t)) (hy : y = strOf s := by first | rfl | decide) (hg : Gl X x := by rfl) (hd : (x == ("__debug__" : Str)) = false := by decide) : PD X c T W (.Name x pos) (mLit (.str s)) := by
  subst hy
  exact e_glob (.str s) (fun z => .str s) hm ⟨t, rfl⟩ hg hd
theorem e_gint (i : Int) {x : Str} {t : Tok} (hm : X.mg x = some (.int i t)) (hg : Gl X x := by rfl) (hd : (x == ("__debug__" : Str)) = false := by decide) : PD X c T W (.Name x pos) (mLit (.int i)) := e_glob (.int i) (fun z => .int i) hm ⟨t, rfl⟩ hg hd
/-- a built-in type, named -/
theorem e_ty (n : String) {x : Str} (hm : X.mg x = none) (hv : bootBuiltins x = some (.type n)) (hg : Gl X x := by rfl) (hn : x ≠ "__name__" := by decide) (hd : (x == ("__debug__" : Str)) = false := by decide) : PD X c T W (.Name x pos) (mLit (.ty n)) :=
  imp_PE (pe_bltn (v := .ty n) hg hm hv rfl hn hd) fun σ H Q ⟨z, ρ, st, w, r, q⟩ => q z H _ (Le.refl z) w (.ty n)
theorem u64 {A : Around} {k : Nat} (hr : Room k A) : A.units + 64 < cLine := by have := hr.un; omega
theorem u65 {A : Around} {k : Nat} (hr : Room k A) : A.units + 65 < cLine := by have := hr.un; omega
end
/-! ### defs of the text -/
section
variable {P : Program} {w : World} {K : PySem.W.Frag} {mg : Str → Option Value} {base : Heap} {x qual : Str} {st : Stmt} {f : Addr} {fd : FuncData} {N ps : List Str} {k : Nat} {T : List (Addr × Str)}
theorem bwB (F : L2.Fun K x qual st f fd) (S : FnScope N ps (defScope st)) (m : MS) (hbody : ∀ (cdv : Value) (A : Around) (S1 : List PySem.Env) (s : Shared) (H : Hp) (E : XK) (z : Zw), Room k (A.deeper (envOfC qual (defScope st) s.heap.objs.size f cdv)) →
      SsD (cxOf (L2.CX P w) P w K mg base N qual (defScope st) f cdv A S1 s H E) ⟨⟨K, mg⟩, none, none, z⟩ T (fun cls dd _ H => E cls dd H) (defBody st) m) :
    FnOk P w K mg base (L2.CX P w) (k + 1) f fd ps (spB ⟨K, mg⟩ T ps.length fun ds st => bodyR (m (envE N.length (ds.map some)) st)) := by
  obtain ⟨oc, od, kV, doc, pm, an, cdv, ct, osl, rfl, lk, hcd⟩ := F.ex
  exact fnB lk hcd S m fun A S1 s H E z hr => hbody cdv A S1 s H E z hr
theorem bwT (F : L2.Fun K x qual st f fd) (S : FnScope N ps (defScope st)) (m : MS) (hnc : ∀ y ∈ (defScope st).names, y.2 ≠ .cell) (hps : 1 ≤ ps.length) (hbody : ∀ (cdv : Value) (A : Around) (S1 : List PySem.Env) (s : Shared) (H : Hp) (E : XK) (z : Zw), Room k (A.deeper (envOfC qual (defScope st) s.heap.objs.size f cdv)) →
      SsDT (cxOf (L2.CX P w) P w K mg base N qual (defScope st) f cdv A S1 s H E) ⟨⟨K, mg⟩, none, none, z⟩ T (fun cls dd _ H => E cls dd H) (defBody st) m) :
    FnOk P w K mg base (L2.CX P w) (k + 1) f fd ps (spB ⟨K, mg⟩ T ps.length fun ds st => bodyR (m (envE N.length (ds.map some)) st)) := by
  obtain ⟨oc, od, kV, doc, pm, an, cdv, ct, osl, rfl, lk, hcd⟩ := F.ex
  exact fnBT lk hcd S m hnc hps fun A S1 s H E z hr => hbody cdv A S1 s H E z hr
/-- where the code object and its table matter too -/
structure FunC (K : PySem.W.Frag) (x qual : Str) (st : Stmt) (f : Addr) (fd : FuncData) (cA : Addr) : Prop where
  ex : ∃ (oc : Value) (od : Option Addr) (kV doc pm : Value) (an : Option Addr) (ct : Value) (osl : Array (Option Value)), fd = PySem.W.fnOf x qual (defArgs st) (defBody st) (defScope st) .none kV doc pm an (.ref cA) ct ∧ K.lookup f = some ⟨oc, od, .func fd, osl⟩ ∧ PySem.W.codeIn K (.ref cA) qual = true
theorem bwBC {cA : Addr} (F : FunC K x qual st f fd cA) (S : FnScope N ps (defScope st)) (m : MS) (hbody : ∀ (A : Around) (S1 : List PySem.Env) (s : Shared) (H : Hp) (E : XK) (z : Zw), Room k (A.deeper (envOfC qual (defScope st) s.heap.objs.size f (.ref cA))) →
      SsD (cxOf (L2.CX P w) P w K mg base N qual (defScope st) f (.ref cA) A S1 s H E) ⟨⟨K, mg⟩, none, none, z⟩ T (fun cls dd _ H => E cls dd H) (defBody st) m) :
    FnOk P w K mg base (L2.CX P w) (k + 1) f fd ps (spB ⟨K, mg⟩ T ps.length fun ds st => bodyR (m (envE N.length (ds.map some)) st)) := by
  obtain ⟨oc, od, kV, doc, pm, an, ct, osl, rfl, lk, hcd⟩ := F.ex
  exact fnB lk hcd S m fun A S1 s H E z hr => hbody A S1 s H E z hr
theorem bwC (F : L2.Fun K x qual st f fd) (S : FnScope N ps (defScope st)) (m : Clo → MS) (hbody : ∀ (cdv : Value) (kc : Nat) (A : Around) (S1 : List PySem.Env) (s : Shared) (H : Hp) (E : XK) (z : Zw) (a : Addr) (gc : Clo), Room (k + kc) (A.deeper (envOfC qual (defScope st) s.heap.objs.size f cdv)) → Clos P w K mg base ⟨K, mg⟩ T kc S1 s H z a gc →
      SsD (cxOf (L2.CX P w) P w K mg base N qual (defScope st) f cdv A S1 s H E) ⟨⟨K, mg⟩, some a, none, z⟩ T (fun cls dd _ H => E cls dd H) (defBody st) (m gc)) :
    FnC P w K mg base ⟨K, mg⟩ T (k + 1) f fd ps (fun gc ds st => bodyR (m gc (envE N.length (some (.clo 0) :: ds.map some)) st)) := by
  obtain ⟨oc, od, kV, doc, pm, an, cdv, ct, osl, rfl, lk, hcd⟩ := F.ex
  exact fnCl lk hcd S m fun kc A S1 s H E z a gc hr hc => hbody cdv kc A S1 s H E z a gc hr hc
theorem bwCC {cA : Addr} (F : FunC K x qual st f fd cA) (S : FnScope N ps (defScope st)) (m : Clo → MS) (hbody : ∀ (kc : Nat) (A : Around) (S1 : List PySem.Env) (s : Shared) (H : Hp) (E : XK) (z : Zw) (a : Addr) (gc : Clo), Room (k + kc) (A.deeper (envOfC qual (defScope st) s.heap.objs.size f (.ref cA))) → Clos P w K mg base ⟨K, mg⟩ T kc S1 s H z a gc →
      SsD (cxOf (L2.CX P w) P w K mg base N qual (defScope st) f (.ref cA) A S1 s H E) ⟨⟨K, mg⟩, some a, none, z⟩ T (fun cls dd _ H => E cls dd H) (defBody st) (m gc)) :
    FnC P w K mg base ⟨K, mg⟩ T (k + 1) f fd ps (fun gc ds st => bodyR (m gc (envE N.length (some (.clo 0) :: ds.map some)) st)) := by
  obtain ⟨oc, od, kV, doc, pm, an, ct, osl, rfl, lk, hcd⟩ := F.ex
  exact fnCl lk hcd S m fun kc A S1 s H E z a gc hr hc => hbody kc A S1 s H E z a gc hr hc
end
/-! ### weaker promises: what is laid and no more reached is forgotten -/
mutual
/-- only things of the store below n -/
def lowD (n : Nat) : D → Bool
  | .ref k => decide (k < n)
  | .tup ds => lowDs n ds
  | .lst ds => lowDs n ds
  | _ => true
def lowDs (n : Nat) : List D → Bool
  | [] => true
  | d :: ds => lowD n d && lowDs n ds
end
def lowF (n : Nat) (fs : List (String × D)) : Bool := fs.all fun p => lowD n p.2
def lowO (n : Nat) : MO → Bool
  | .lst ds => lowDs n ds
  | .ins _ fs => lowF n fs
section
variable {c : Cc} {z z' : Zw}
mutual
theorem Rp.low : ∀ {v : V} {d : D}, Rp c z v d → lowD z.μ.length d = true
  | _, _, .non => rfl
  | _, _, .bl _ => rfl
  | _, _, .int _ => rfl
  | _, _, .str _ => rfl
  | _, _, .tup _ r => by unfold lowD; exact Rps.low r
  | _, _, .lst _ r => by unfold lowD; exact Rps.low r
  | _, _, .ref e => by unfold lowD; exact decide_eq_true (List.getElem?_eq_some_iff.mp e).1
  | _, _, .fn _ _ => rfl
  | _, _, .ty _ => rfl
  | _, _, .scr _ => rfl
theorem Rps.low : ∀ {vs : List V} {ds : List D}, Rps c z vs ds → lowDs z.μ.length ds = true
  | _, _, .nil => rfl
  | _, _, .cons a r => by unfold lowDs; rw [Rp.low a, Rps.low r] <;> rfl
end
abbrev Zw.cut (z : Zw) (n : Nat) : Zw := ⟨z.G, z.μ.take n, z.F⟩
mutual
theorem Rp.cut {n : Nat} : ∀ {v : V} {d : D}, Rp c z v d → lowD n d = true → Rp c (z.cut n) v d
  | _, _, .non, _ => .non
  | _, _, .bl b, _ => .bl b
  | _, _, .int i, _ => .int i
  | _, _, .str s, _ => .str s
  | _, _, .tup s r, h => .tup s (Rps.cut' r (by unfold lowD at h; exact h))
  | _, _, .lst s r, h => .lst s (Rps.cut' r (by unfold lowD at h; exact h))
  | _, _, .ref (n := k) e, h => .ref (by unfold lowD at h; show (z.μ.take n)[k]? = _; rw [List.getElem?_take_of_lt (of_decide_eq_true h)]; exact e)
  | _, _, .fn a b, _ => .fn a b
  | _, _, .ty m, _ => .ty m
  | _, _, .scr s, _ => .scr s
theorem Rps.cut' {n : Nat} : ∀ {vs : List V} {ds : List D}, Rps c z vs ds → lowDs n ds = true → Rps c (z.cut n) vs ds
  | _, _, .nil, _ => .nil
  | _, _, .cons a r, h => by
    unfold lowDs at h
    rw [Bool.and_eq_true] at h
    exact .cons (Rp.cut a h.1) (Rps.cut' r h.2)
end
theorem Rpf.low {fs : List (Str × V)} {es : List (String × D)} (r : Rpf c z fs es) : lowF z.μ.length es = true := by
  induction r with
  | nil => rfl
  | cons a _ ih =>
    unfold lowF at ih ⊢
    rw [List.all_cons, ih, Bool.and_true]
    exact a.low
theorem Rpf.cut {n : Nat} {fs : List (Str × V)} {es : List (String × D)} (r : Rpf c z fs es) (h : lowF n es = true) : Rpf c (z.cut n) fs es := by
  induction r with
  | nil => exact .nil
  | cons a _ ih =>
    unfold lowF at h ih
    rw [List.all_cons, Bool.and_eq_true] at h
    exact .cons (a.cut h.1) (ih h.2)
theorem RpO.low {H : Hp} {a : Addr} : ∀ {o : MO}, RpO c z H a o → lowO z.μ.length o = true
  | .lst _, ⟨_, _, r⟩ => r.low
  | .ins _ _, ⟨_, _, _, _, _, r⟩ => r.low
theorem RpO.cut {n : Nat} {H : Hp} {a : Addr} : ∀ {o : MO}, RpO c z H a o → lowO n o = true → RpO c (z.cut n) H a o
  | .lst _, ⟨vs, x, r⟩, h => ⟨vs, x, r.cut' h⟩
  | .ins _ _, ⟨C, dx, vs, m, x, r⟩, h => ⟨C, dx, vs, m, x, r.cut h⟩
theorem Wf.cut {T : List (Addr × Str)} {st j : Store} {H : Hp} (w : Wf c T z (st ++ j) H) (h : ∀ (n : Nat) (o : MO), st[n]? = some o → lowO st.length o = true) : Wf c T (z.cut st.length) st H := by
  refine ⟨w.sub, ?_, ?_, fun n a o e1 e2 => ?_, w.tab, fun p hp => ⟨(w.noT p hp).1, fun hm => (w.noT p hp).2 (List.mem_of_mem_take hm)⟩, fun a o e => ?_⟩
  · show (z.μ.take st.length).length = _
    rw [List.length_take, w.len, List.length_append]
    omega
  · exact w.nd.sublist (List.take_sublist _ _)
  · have hn : n < st.length := (List.getElem?_eq_some_iff.mp e2).1
    have e1' : z.μ[n]? = some a := by
      have q : (z.μ.take st.length)[n]? = some a := e1
      rw [List.getElem?_take_of_lt hn] at q
      exact q
    obtain ⟨h1, h2⟩ := w.obj n a o e1' (by rw [List.getElem?_append_left hn]; exact e2)
    exact ⟨h1, h2.cut (h n o e2)⟩
  · obtain ⟨h1, h0, h2, h3⟩ := w.fr a o e
    exact ⟨h1, h0, fun hm => h2 (List.mem_of_mem_take hm), h3⟩
end
/-- what is forgotten: j -/
def Keeps (st st' j : Store) : Prop := j = [] ∨ (st'.length = st.length ∧ ∀ (n : Nat) (o : MO), st'[n]? = some o → st[n]? = some o ∨ lowO st.length o = true)
def SubR (st : Store) : Res D → Res D → Prop
  | _, .no => True
  | .ok d s, .ok d' s' => d = d' ∧ ∃ j, s = s' ++ j ∧ Keeps st s' j ∧ (j = [] ∨ lowD st.length d = true)
  | .er e s, .er e' s' => e = e' ∧ ∃ j, s = s' ++ j ∧ Keeps st s' j ∧ (j = [] ∨ lowF st.length e.fs = true)
  | _, _ => False
theorem SubR.refl {st : Store} : ∀ r : Res D, SubR st r r
  | .ok d s => ⟨rfl, [], (List.append_nil _).symm, .inl rfl, .inl rfl⟩
  | .er e s => ⟨rfl, [], (List.append_nil _).symm, .inl rfl, .inl rfl⟩
  | .no => trivial
section
variable {c : Cc} {T : List (Addr × Str)} {z : Zw} {st : Store} {H : Hp} {Q : VK} {E : XK}
theorem sub_pst {r r' : Res D} (w : Wf c T z st H) (h : SubR st r r') (q : PstC c T z r' Q E) : PstC c T z r Q E := by
  have low : ∀ {s' j}, Keeps st s' j → j ≠ [] → s'.length = st.length ∧ ∀ (n : Nat) (o : MO), s'[n]? = some o → lowO s'.length o = true := fun {s' j} k hj => by
    obtain ⟨h1, h2⟩ := k.resolve_left hj
    refine ⟨h1, fun n o e => ?_⟩
    rw [h1]
    rcases h2 n o e with q | q
    · have hn : n < st.length := (List.getElem?_eq_some_iff.mp q).1
      have ha : z.μ[n]? = some (z.μ[n]'(by rw [w.len]; exact hn)) := List.getElem?_eq_getElem _
      have := (w.obj n _ o ha q).2.low
      rw [w.len] at this
      exact this
    · exact q
  have cutLe : ∀ {z' : Zw} {n : Nat}, Le z z' → n = st.length → Le z (z'.cut n) := fun {z' n} l e => by
    refine ⟨l.g, ⟨[], ?_⟩, l.f⟩
    obtain ⟨r, hr⟩ := l.m
    show z'.μ.take n = _
    rw [hr, e, ← w.len, List.take_left, List.append_nil]
  cases r' with
  | no => exact q.elim
  | ok d' s' =>
    cases r with
    | ok d s =>
      obtain ⟨rfl, j, rfl, k, kd⟩ := h
      intro z' H' v l w' rv
      by_cases hj : j = []
      · subst hj
        rw [List.append_nil] at w'
        exact q z' H' v l w' rv
      · obtain ⟨h1, h2⟩ := low k hj
        refine q (z'.cut s'.length) H' v (cutLe l h1) (w'.cut h2) (rv.cut ?_)
        rw [h1]
        exact kd.resolve_left hj
    | er e s => exact h.elim
    | no => exact h.elim
  | er e' s' =>
    cases r with
    | er e s =>
      obtain ⟨rfl, j, rfl, k, kd⟩ := h
      intro z' H' cls dd l w' eo
      by_cases hj : j = []
      · subst hj
        rw [List.append_nil] at w'
        exact q z' H' cls dd l w' eo
      · obtain ⟨h1, h2⟩ := low k hj
        refine q (z'.cut s'.length) H' cls dd (cutLe l h1) (w'.cut h2) ⟨eo.1, ?_⟩
        obtain ⟨_, eo2⟩ := eo
        cases dd with
        | none => exact eo2
        | some d =>
          obtain ⟨fs, h3, h4⟩ := eo2
          exact ⟨fs, h3, h4.cut (by rw [h1]; exact kd.resolve_left hj)⟩
    | ok d s => exact h.elim
    | no => exact h.elim
end
theorem spB.weak {P : Program} {w : World} {K : PySem.W.Frag} {mg : Str → Option Value} {base : Heap} {k : Nat} {f : Addr} {fd : FuncData} {ps : List Str} {c : Cc} {T : List (Addr × Str)} {n : Nat} {g g' : List D → Store → Res D} (F : FnOk P w K mg base (L2.CX P w) k f fd ps (spB c T n g)) (h : ∀ ds st, ds.length = n → SubR st (g ds st) (g' ds st)) :
    FnOk P w K mg base (L2.CX P w) k f fd ps (spB c T n g') :=
  F.imp fun vs H Q E ⟨hl, z, st, ds, w', rd, q⟩ => ⟨hl, z, st, ds, w', rd, sub_pst w' (h ds st (by rw [← rd.len]; exact hl)) q⟩
theorem FnC.weak {P : Program} {w : World} {K : PySem.W.Frag} {mg : Str → Option Value} {base : Heap} {k : Nat} {f : Addr} {fd : FuncData} {ps : List Str} {c : Cc} {T : List (Addr × Str)} {g g' : Clo → List D → Store → Res D} (F : FnC P w K mg base c T k f fd ps g) (h : ∀ gc ds st, SubR st (g gc ds st) (g' gc ds st)) :
    FnC P w K mg base c T k f fd ps g' :=
  fun kc A S s H args us a vs gc ds z st Q E hr e0 hb rv hl hc w' rd q => F kc A S s H args us a vs gc ds z st Q E hr e0 hb rv hl hc w' rd (sub_pst w' (h gc ds st) q)
end Bw
set_option linter.all false
set_option autoImplicit false
set_option maxRecDepth 100000
set_option maxHeartbeats 2000000
/-! Small ones: items set, three at once, name += number, calls by name alone. -/
namespace Bw
open PySem PySem.Spec PyProof.Rows L2
section
variable {X : Cx} {c : Fc} {T : List (Addr × Str)} {W : WX} {a b d o i e : PySem.Expr} {ma mb md mo mi : ME} {mr : MA} {pos tpos p : Pos}
theorem putD_some {o i v : D} {st st' : Store} (h : putD o i v st = some st') : ∃ n kk ds j, o = .ref n ∧ i = .int kk ∧ st[n]? = some (.lst ds) ∧ atN ds.length kk = some j ∧ st' = st.set n (.lst (ds.set j v)) := by
  unfold putD at h
  split at h
  · split at h
    · rename_i n k _ ds hst
      cases hj : atN ds.length k with
      | none => rw [hj] at h; cases h
      | some j =>
        rw [hj] at h
        cases h
        exact ⟨n, k, ds, j, rfl, rfl, hst, hj, rfl⟩
    · cases h
  · cases h
theorem s_put (hK : X.K = c.K) (ha : PD X c T W a ma) (ho : PD X c T W o mo) (hi : PD X c T W i mi)
    (hs : swapsWithSole [.Subscript o i tpos] a pos.line X.env = pure false := by rfl) (hw : swappedStores [.Subscript o i tpos] a X.env = pure none := by rfl) (h1 : (assignEach [.Subscript o i tpos] X.env).map (·.2) = [assign (.Subscript o i tpos) X.env] := by rfl)
    (has : ∀ v, assign (.Subscript o i tpos) X.env v = (do
      let ov ← holding [v] (eval o X.env)
      let iv ← holding [v, ov] (eval i X.env)
      standAt tpos
      holding [v, ov, iv] (setItem ov iv v)
      release [v, ov, iv] []) := by intro _; rfl) :
    SD X c T W (.Assign [.Subscript o i tpos] a pos) (sPut mo mi ma) :=
  imp_PS (ps_asg ha (pg_sub ho hi set_list has) hs hw h1) fun D σ H ⟨z, ρ, st, w, r, q⟩ => ⟨z, ρ, st, w, r, (PstS.bnd q r).imp fun x H1 ⟨z1, st1, dx, l1, w1, rx, q1⟩ => ⟨z1, ρ, st1, w1, r.mono l1, (PstS.bnd q1 (r.mono l1)).imp fun y H2 ⟨z2, st2, dy, l2, w2, ry, q2⟩ =>
    ⟨z2, ρ, st2, w2, (r.mono l1).mono l2, (PstS.bnd q2 ((r.mono l1).mono l2)).imp fun k H3 ⟨z3, st3, dk, l3, w3, rk, q3⟩ => by
      split at q3
      · rename_i st' he
        obtain ⟨n, kk, ds, j, rfl, rfl, hst, hj, rfl⟩ := putD_some he
        cases ry with
        | ref e1 =>
          cases rk with
          | int _ =>
            have e2 := l3.at e1
            obtain ⟨_, vs, k1, k2⟩ := w3.obj _ _ _ e2 hst
            exact ⟨_, vs, kk, j, rfl, rfl, k1, by rw [k2.len]; exact hj, q3 z3 _ σ (Le.refl z3) (w3.put e2 hst (k2.set ((rx.mono l2).mono l3) j)) (((r.mono l1).mono l2).mono l3)⟩
      · exact q3.elim⟩⟩⟩
theorem s_par3 (i j l : Nat) {x y z : Str} {a b d : PySem.Expr} {px py pz pt : Pos} {kt k2 pt2} (hc : X.calm = true) (ha : PA X [a, b, d] (LA c T W mr)) (hN : X.N.Nodup) (hi : X.N[i]? = some x := by rfl) (hj : X.N[j]? = some y := by rfl) (hl : X.N[l]? = some z := by rfl) (hij : i ≠ j := by decide) (hil : i ≠ l := by decide) (hjl : j ≠ l := by decide)
    (hx : X.env.scope.names.lookup x = some .local := by rfl) (hy : X.env.scope.names.lookup y = some .local := by rfl) (hz : X.env.scope.names.lookup z = some .local := by rfl)
    (hw : swappedStores [.Tuple [.Name x px, .Name y py, .Name z pz] kt pt] (.Tuple [a, b, d] k2 pt2) X.env = pure (some [x, y, z]) := by rfl)
    (hs : swapsWithSole [.Tuple [.Name x px, .Name y py, .Name z pz] kt pt] (.Tuple [a, b, d] k2 pt2) pos.line X.env = pure false := by rfl) :
    SD X c T W (.Assign [.Tuple [.Name x px, .Name y py, .Name z pz] kt pt] (.Tuple [a, b, d] k2 pt2) pos) (sPar3 i j l mr) :=
  imp_PS (ps_par3 hc hN hi hj hl hij hil hjl hx hy hz ha hw hs) fun D σ H ⟨zz, ρ, st, w, r, q⟩ => ⟨zz, ρ, st, w, r, (PstS.bnd q r).imp fun xs H1 ⟨z1, st1, ds, l1, w1, rs, q1⟩ => by
    split at q1
    · cases rs with
      | cons ra rr => cases rr with
        | cons rb rr => cases rr with
          | cons rc rr => cases rr with
            | nil => exact ⟨_, _, _, rfl, q1 z1 H1 _ (Le.refl z1) w1 ((((r.mono l1).set (.d ra) i).set (.d rb) j).set (.d rc) l)⟩
    · exact q1.elim⟩
/-! ### numbers added in place -/
def fInc : D → D → Store → Option D := fun a b _ => match a, b with
  | .int i, .int j => some (.int (i + j))
  | _, _ => none
def fDec : D → D → Store → Option D := fun a b _ => match a, b with
  | .int i, .int j => some (.int (i - j))
  | _, _ => none
theorem i_inc : PIp X .Add (rIp c.toCc T fInc) := fun pins s σ H x y v u Q I rx ry ⟨z, st, dx, dy, dd, w, h1, h2, e, q⟩ => by
  unfold fInc at e
  cases h1 with
  | int i => cases h2 with
    | int j =>
      cases e
      exact ip_add pins s σ H _ _ v u Q I rx ry ⟨i, j, rfl, rfl, q z H _ (Le.refl z) w (.int _)⟩
    | _ => cases e
  | _ => cases e
theorem i_dec : PIp X .Sub (rIp c.toCc T fDec) := fun pins s σ H x y v u Q I rx ry ⟨z, st, dx, dy, dd, w, h1, h2, e, q⟩ => by
  unfold fDec at e
  cases h1 with
  | int i => cases h2 with
    | int j =>
      cases e
      exact ip_sub pins s σ H _ _ v u Q I rx ry ⟨i, j, rfl, rfl, q z H _ (Le.refl z) w (.int _)⟩
    | _ => cases e
  | _ => cases e
variable {k : Nat} {f : Addr} {fd : FuncData} {ps ks : List Str} {x nm : Str} {g : List D → Store → Res D}
theorem e_call0 (F : FnOk X.prog X.w X.K X.mg X.base (L2.CX X.prog X.w) k f fd ps (spB c.toCc T ps.length g)) (hr : Room k X.A) (hm : X.mg x = some (.ref f)) (hk : PySem.W.keepIn X.K (.ref f) = true) (hb : Binds X.K fd ps []) (tk : Takes X W) (hn : 0 = ps.length := by rfl)
    (hg : Gl X x := by rfl) (hdb : (x == ("__debug__" : Str)) = false := by decide) : PD X c T W (.Call (.Name x p) [] [] pos) (mCall g aNil) := by
  refine ⟨fun pins s σ H Q I ⟨z, ρ, st, w, r, q⟩ => ?_⟩
  refine wpAny_Call_Name_kw (ld_glob I hg hm ?_ hdb)
  exact PySem.W.callWith_K0 I.kIn hk (run_fnS (us := []) (E := fun σ => WE W σ) F hr hb (passAt tk σ) I .nil ⟨by simpa using hn, z, st, [], w, .nil, PstC.of q⟩)
/-- f(name = e) -/
theorem e_callK (F : FnOk X.prog X.w X.K X.mg X.base (L2.CX X.prog X.w) k f fd ps (spB c.toCc T ps.length g)) (hr : Room k X.A) (hm : X.mg x = some (.ref f)) (hk : PySem.W.keepIn X.K (.ref f) = true) {kpos : Pos} (hb : ∀ (s : Shared) (v : Value), BindsTo s fd ⟨[], [(nm, v)]⟩ [(nm, v)]) (tk : Takes X W) (ha : PD X c T W e ma) (hps : ps = [nm] := by rfl)
    (hall : (backToKw pos (keywordEach [⟨some nm, e, kpos⟩] X.env)).all (·.1.isSome) = true := by rfl) (hks : (backToKw pos (keywordEach [⟨some nm, e, kpos⟩] X.env)).filterMap (·.1) = [nm] := by rfl)
    (hpl : ((backTo pos (starEach [] X.env)).any (·.1) || (backToKw pos (keywordEach [⟨some nm, e, kpos⟩] X.env)).any (·.1.isNone)) = false := by rfl)
    (hg : Gl X x := by rfl) (hdb : (x == ("__debug__" : Str)) = false := by decide) : PD X c T W (.Call (.Name x p) [] [⟨some nm, e, kpos⟩] pos) (fun ρ st => (ma ρ st).bind fun y st => g [y] st) := by
  subst hps
  refine ⟨fun pins s σ H Q I ⟨z, ρ, st, w, r, q⟩ => ?_⟩
  refine wpAny_Call_Name_kw (ld_glob I hg hm ?_ hdb)
  refine PySem.W.callWith_KW0 (h₀ := X.base) I.ok.mod.kin hk hall ?_ hpl
  refine thn ((pk_cons ha pk_nil).run pos pins s σ H (fun vs H1 => ∃ z1 st1 y dy, vs = [y] ∧ Le z z1 ∧ Wf c.toCc T z1 st1 H1 ∧ Rp c.toCc z1 y dy ∧ PstC c.toCc T z1 (g [dy] st1) Q (WE W σ)) I ⟨z, ρ, st, w, r, (Pst.bnd q).imp fun y H1 ⟨z1, st1, dy, l1, w1, ry, q1⟩ => ⟨z1, st1, y, dy, rfl, l1, w1, ry, PstC.of q1⟩⟩) fun us s1 ⟨vs, H1, I1, r1, z1, st1, y, dy, e1, l1, w1, rd, q1⟩ => ⟨I1.kIn, ?_⟩
  subst e1
  obtain ⟨u, rfl, ru⟩ : ∃ u, us = [u] ∧ RelV y u := by
    cases r1 with
    | cons a b => cases b; exact ⟨_, rfl, a⟩
  rw [hks]
  refine wpAny_call (codeAny_mono (F.run X.A X.stack s1 H1 ⟨[], [nm].zip [u]⟩ [u] [y] Q (WE W σ) hr I1.env0 (hb s1 u) (.cons ru .nil) ⟨rfl, z1, st1, [dy], w1, .cons rd .nil, q1⟩) fun r s' hq => ?_)
  cases r with
  | error e => exact passAt tk σ pins H1 s1 e s' I1 hq
  | ok fl =>
    cases fl with
    | ret u => exact I1.after hq
    | next => exact False.elim hq
    | brk => exact False.elim hq
    | cont => exact False.elim hq
end
end Bw
set_option linter.all false
set_option autoImplicit false
set_option maxRecDepth 100000
set_option maxHeartbeats 2000000
/-! What a printed walk leans on. -/
namespace Bw
open PySem PySem.Spec PyProof.Rows L2 LamX
section
variable {X : Cx} {c : Fc} {T : List (Addr × Str)} {W : WX} {pos : Pos}
theorem e_gstrx (s : List Nat) {x : Str} (hm : ∃ t, X.mg x = some (.str (strOf s) t)) (hg : Gl X x := by rfl) (hd : (x == ("__debug__" : Str)) = false := by decide) : PD X c T W (.Name x pos) (mLit (.str s)) := by
  obtain ⟨t, hm⟩ := hm
  exact e_gstr s hm rfl hg hd
theorem e_gintx (i : Int) {x : Str} (hm : ∃ t, X.mg x = some (.int i t)) (hg : Gl X x := by rfl) (hd : (x == ("__debug__" : Str)) = false := by decide) : PD X c T W (.Name x pos) (mLit (.int i)) := by
  obtain ⟨t, hm⟩ := hm
  exact e_gint i hm hg hd
/-- a tuple or list that the top has made -/
def Gval (K : PySem.W.Frag) (mg : Str → Option Value) (x : Str) (d : D) : Prop := ∃ a, mg x = some (.ref a) ∧ ∀ z, Rp ⟨K, mg⟩ z (.ref a) d
theorem e_gval (d : D) {x : Str} (hm : Gval X.K X.mg x d) (hc : c.toCc = ⟨X.K, X.mg⟩ := by rfl) (hg : Gl X x := by rfl) (hd : (x == ("__debug__" : Str)) = false := by decide) : PD X c T W (.Name x pos) (mLit d) := by
  obtain ⟨a, h1, h2⟩ := hm
  exact e_glob (v := .ref a) d (fun z => by rw [hc]; exact h2 z) h1 rfl hg hd
end
/-! ### functions and error classes of the top -/
structure At (K : PySem.W.Frag) (mg : Str → Option Value) (x : Str) (st : Stmt) (ps : List Str) (f : Addr) (fd : FuncData) : Prop where
  mg : mg x = some (.ref f)
  kp : PySem.W.keepIn K (.ref f) = true
  bd : Binds K fd ps []
  fn : L2.Fun K x x st f fd
theorem FunC.fun {K : PySem.W.Frag} {x qual : Str} {st : Stmt} {f : Addr} {fd : FuncData} {cA : Addr} (F : FunC K x qual st f fd cA) (kp : PySem.W.keepIn K (.ref f) = true) : L2.Fun K x qual st f fd := by
  obtain ⟨oc, od, kV, doc, pm, an, ct, osl, h1, h2, h3⟩ := F.ex
  exact ⟨⟨oc, od, kV, doc, pm, an, .ref cA, ct, osl, h1, h2, h3⟩, kp⟩
theorem At.kw {K : PySem.W.Frag} {mg : Str → Option Value} {x : Str} {st : Stmt} {ps : List Str} {f : Addr} {fd : FuncData} {nm : Str} (F : At K mg x st ps f fd) (h : ∀ (kV doc pm : Value) (an : Option Addr) (cdv ct v : Value), bindArgs (PySem.W.fnOf x x (defArgs st) (defBody st) (defScope st) .none kV doc pm an cdv ct) ⟨[], [(nm, v)]⟩ = pure [(nm, v)] := by intros; rfl) (s : Shared) (v : Value) : BindsTo s fd ⟨[], [(nm, v)]⟩ [(nm, v)] := by
  obtain ⟨oc, od, kV, doc, pm, an, cdv, ct, osl, rfl, lk, hcd⟩ := F.fn.ex
  exact .of_eq (h kV doc pm an cdv ct v)
structure AtC (K : PySem.W.Frag) (mg : Str → Option Value) (x : Str) (st : Stmt) (ps : List Str) (f : Addr) (fd : FuncData) (cA : Addr) : Prop where
  mg : mg x = some (.ref f)
  kp : PySem.W.keepIn K (.ref f) = true
  bd : Binds K fd ps []
  fn : FunC K x x st f fd cA
structure XAt (P : Program) (w : World) (K : PySem.W.Frag) (mg : Str → Option Value) (x : String) (C : Addr) (as : List String) : Prop where
  mkx : BwX.MkX P w K mg C (as.map Str.ofString)
  mg : mg (Str.ofString x) = some (.ref C)
  kp : PySem.W.keepIn K (.ref C) = true
  bs : PySem.W.subIn K (.ref C) (.type "BaseException") = some true
  ty : PySem.W.typeIn K (.ref C) = some (.type "type")
/-- the lambdas' name under a def -/
abbrev lq (q : Str) : Str := (q ++ ".<locals>.") ++ "<lambda>"
/-- nothing is promised at no depth -/
theorem bw0 {P : Program} {w : World} {K : PySem.W.Frag} {mg : Str → Option Value} {base : Heap} {f : Addr} {fd : FuncData} {ps : List Str} {c : Cc} {T : List (Addr × Str)} {k : Nat} : FnOk P w K mg base (L2.CX P w) k f fd ps (spB c T ps.length fun _ _ => .no) :=
  ⟨fun vs H Q E h => h.1, fun A S s H args us vs Q E _ _ _ _ h => by
    obtain ⟨_, _, _, _, _, _, q⟩ := h
    exact q.elim⟩
/-! ### lambdas' arguments -/
section
variable {params : Arguments} {body : PySem.Expr} {scope : Scope}
theorem lamB0f (h : params = { posonlyargs := [], args := [], vararg := none, kwonlyargs := [], kw_defaults := [], kwarg := none, defaults := [] } := by rfl) : LamBind false 0 [] params body scope := ⟨rfl, fun q cl pm cdv ct dV s us hl hd => by
  subst h
  have hd : dV = .none := hd
  subst hd
  cases us with
  | nil => exact .of_eq rfl
  | cons _ _ => cases hl⟩
theorem lamB1f {a : Str} (hk : ∀ (v : Value) (q : Str) (cl : List (Str × Addr)) (pm cdv ct : Value), bindArgs (BwX.lamFn .none q params body scope cl pm cdv ct) ⟨[v], []⟩ = pure [(a, v)] := by intros; rfl) : LamBind false 1 [a] params body scope := ⟨rfl, fun q cl pm cdv ct dV s us hl hd => by
  have hd : dV = .none := hd
  subst hd
  match us, hl with
  | [v], _ => exact .of_eq (hk v q cl pm cdv ct)⟩
theorem lamB0t {a : Str} (hk : ∀ (T0 : Addr) (q : Str) (cl : List (Str × Addr)) (pm cdv ct : Value), ∃ k, bindArgs (BwX.lamFn (.ref T0) q params body scope cl pm cdv ct) ⟨[], []⟩ = seqItems? (.ref T0) >>= k ∧ k (some #[.none]) = pure [(a, .none)] := by intros; exact ⟨_, rfl, rfl⟩) : LamBind true 0 [a] params body scope := ⟨rfl, fun q cl pm cdv ct dV s us hl hd => by
  obtain ⟨T0, rfl, ho⟩ : ∃ T0, dV = .ref T0 ∧ s.heap.get? T0 = some { cls := .type "tuple", data := .seq #[.none] } := hd
  cases us with
  | nil =>
    obtain ⟨k, h1, h2⟩ := hk T0 q cl pm cdv ct
    exact BindsTo.of_defaults rfl ho rfl h1 h2
  | cons _ _ => cases hl⟩
end
section
variable {X : Cx} {c : Fc} {T : List (Addr × Str)} {W : WX} {es : List PySem.Expr} {mr : MA} {pos p lpos : Pos}
theorem e_callM {e : PySem.Expr} {k m : Nat} {f : Addr} {fd : FuncData} {ps : List Str} {x : Str} {g : List D → Store → Res D} (F : FnOk X.prog X.w X.K X.mg X.base (L2.CX X.prog X.w) k f fd ps (spB c.toCc T ps.length g)) (hr : Room k X.A) (hm : X.mg x = some (.ref f)) (hk : PySem.W.keepIn X.K (.ref f) = true) (hb : Binds X.K fd ps []) (tk : Takes X W) (ha : PA X (e :: es) (LA c T W mr)) (hpm : ps.length = m := by rfl) (hn : (e :: es).length = ps.length := by rfl)
    (hg : Gl X x := by rfl) (hdb : (x == ("__debug__" : Str)) = false := by decide) (he : starEach (e :: es) X.env = (false, eval e X.env) :: starEach es X.env := by rfl) (hpl : (backTo pos (starEach es X.env)).any (·.1) = false := by rfl) : PD X c T W (.Call (.Name x p) (e :: es) [] pos) (mCall (fun ds st => if ds.length = m then g ds st else .no) mr) := by
  subst hpm
  exact e_call F hr hm hk hb tk ha hn hg hdb he hpl
theorem e_lamC {x : Str} {g cA P : Addr} {k kb : Nat} {fd : FuncData} {ps : List Str} {G : Clo → List D → Store → Res D} {params : Arguments} {body : PySem.Expr} {scope : Scope} {as : List Str} {dn : Bool} {n m : Nat} {ms : List Bool} {mb : ME} (F : FnC X.prog X.w X.K X.mg X.base c.toCc T k g fd ps G) (hr : Room (k + (kb + 1)) X.A) (hm : X.mg x = some (.ref g)) (hk : PySem.W.keepIn X.K (.ref g) = true)
    (hb : Binds X.K fd ps []) (tk : Takes X W) (TB : TabB X.base X.mg cA P) (hcode : X.env.code = .ref cA) (hmT : (P, X.env.qual ++ "<lambda>") ∈ T) (hu : ∀ p ∈ T, p.1 = P → p.2 = X.env.qual ++ "<lambda>") (hs : X.stack = X.env :: X.outer) (hfm : X.env.frame = some X.env.locals) (hex : X.ex = [])
    (L : LamP X.env.scope scope as) (hB : LamBind dn n as params body scope) (hd : DfEx dn params X.env) (hn : es.length + 1 = ps.length) (hpm : ps.length = m) (hms : capt X.N scope = ms)
    (hbody : ∀ (A : Around) (outer : List PySem.Env) (s1 : Shared) (H1 : Hp) (E : XK) (f c' : Addr) (z1 : Zw), Room kb (A.deeper (lamEnv X scope s1.heap.objs.size f c')) → (∀ kc a gc, Clos X.prog X.w X.K X.mg X.base c.toCc T kc X.outer X.s_0 X.H_0 c.z0 a gc → Clos X.prog X.w X.K X.mg X.base c.toCc T kc outer s1 H1 z1 a gc) →
      PD (lamCx X A outer s1 H1 E scope as f c') (c.at z1) T (fun cls dd _ H => E cls dd H) body mb)
    (ha : PA X es (LA c T W mr)) (hg : Gl X x := by rfl) (hdb : (x == ("__debug__" : Str)) = false := by decide) (he : starEach (.Lambda params body scope lpos :: es) X.env = (false, eval (.Lambda params body scope lpos) X.env) :: starEach es X.env := by rfl) (hpl : (backTo pos (starEach es X.env)).any (·.1) = false := by rfl) :
    PD X c T W (.Call (.Name x p) (.Lambda params body scope lpos :: es) [] pos) (mLam (fun gc ds st => if ds.length + 1 = m then G gc ds st else .no) dn n ms mb mr) := by
  subst hms hpm
  exact e_lam F hr hm hk hb tk TB hcode hmT hu hs hfm hex L hB hd hn hbody ha hg hdb he hpl
end
end Bw
set_option linter.all false
set_option autoImplicit false
set_option maxRecDepth 100000
set_option maxHeartbeats 2000000
/-! The top's facts, gathered. -/
namespace Bw
open PySem PySem.Spec PyProof.Rows PySem.W PySem.HandSPX PySem.BwX
open L2 (defBody defScope defArgs fun_mk)
/-- the text of an __init__ that hands two things to super's and keeps them -/
def Shape2 (s : Stmt) (a b : Str) : Prop := ∃ (p0 p1 p2 p3 p6 p4 p5 q1 q2 q3 q4 r1 r2 r3 r4 : Pos),
  defBody s = [.Expr (.Call (.Attribute (.Call (.Name "super" p0) [] [] p1) "__init__" p2) [.Name a p3, .Name b p6] [] p4) p5, .Assign [.Attribute (.Name "self" q1) a q2] (.Name a q3) q4, .Assign [.Attribute (.Name "self" r1) b r2] (.Name b r3) r4] ∧
  ((defArgs s).posonlyargs ++ (defArgs s).args).head?.map (·.arg) = some "self" ∧ (defScope s).names.lookup ("super" : Str) = some .globalImplicit ∧ (defScope s).names.lookup ("__class__" : Str) = some .free ∧ (defScope s).names.lookup ("self" : Str) = some .local ∧ (defScope s).names.lookup a = some .local ∧ (defScope s).names.lookup b = some .local ∧
  (defScope s).kind = .function ∧ (defScope s).isCoroutine = false ∧ (defScope s).isGenerator = false ∧ (∀ y ∈ (defScope s).names, y.2 ≠ .cell) ∧
  (∀ (qual : Str) (doc pm cdv ct : Value) (an : Option Addr) (cc : Addr) (x v u : Value), bindArgs (ksFn "__init__" qual (defArgs s) (defBody s) (defScope s) .none .none doc pm an cdv ct cc) ⟨[x, v, u], []⟩ = pure [(("self" : Str), x), (a, v), (b, u)]) ∧
  (∀ (f cc ca : Addr) (qual : Str), UpEv f cc ca qual (defScope s) p0 p1 p2 p4 p5 [.Name a p3, .Name b p6] ∧ (∀ L : Addr, swapsWith (.Name a q3) (some (.Attribute (.Name "self" q1) a q2)) q4.line (ksEnv qual (defScope s) L f (.ref ca) cc) = pure false) ∧ ∀ L : Addr, swapsWith (.Name b r3) (some (.Attribute (.Name "self" r1) b r2)) r4.line (ksEnv qual (defScope s) L f (.ref ca) cc) = pure false)
def Shape1 (s : Stmt) (a : Str) : Prop := ∃ (p0 p1 p2 p3 p4 p5 q1 q2 q3 q4 : Pos),
  defBody s = [.Expr (.Call (.Attribute (.Call (.Name "super" p0) [] [] p1) "__init__" p2) [.Name a p3] [] p4) p5, .Assign [.Attribute (.Name "self" q1) a q2] (.Name a q3) q4] ∧
  ((defArgs s).posonlyargs ++ (defArgs s).args).head?.map (·.arg) = some "self" ∧ (defScope s).names.lookup ("super" : Str) = some .globalImplicit ∧ (defScope s).names.lookup ("__class__" : Str) = some .free ∧ (defScope s).names.lookup ("self" : Str) = some .local ∧ (defScope s).names.lookup a = some .local ∧
  (defScope s).kind = .function ∧ (defScope s).isCoroutine = false ∧ (defScope s).isGenerator = false ∧ (∀ y ∈ (defScope s).names, y.2 ≠ .cell) ∧
  (∀ (qual : Str) (doc pm cdv ct : Value) (an : Option Addr) (cc : Addr) (x v : Value), bindArgs (ksFn "__init__" qual (defArgs s) (defBody s) (defScope s) .none .none doc pm an cdv ct cc) ⟨[x, v], []⟩ = pure [(("self" : Str), x), (a, v)]) ∧
  (∀ (f cc ca : Addr) (qual : Str), UpEv f cc ca qual (defScope s) p0 p1 p2 p4 p5 [.Name a p3] ∧ ∀ L : Addr, swapsWith (.Name a q3) (some (.Attribute (.Name "self" q1) a q2)) q4.line (ksEnv qual (defScope s) L f (.ref ca) cc) = pure false)
section
variable {P : Program} {w : World} {K : Frag} {h : Heap} {mg : Str → Option Value}
/-- what is read off the top of an error class -/
structure XF (P : Program) (K : Frag) (x : String) (s : Stmt) (C f cc ca : Addr) (qual : Str) : Prop where
  aC : nsIn K mainGlobals (Str.ofString x) = some (some (.ref C))
  lC : ∃ nm q N bs bm sn sub ab col dd k0 k1 k2 k3 k5, K.lookup C = some (excClassObj nm q C N bs bm true sn sub ab col dd k0 k1 k2 k3 k5 "Exception.__new__") ∧ excTail ESX.exTail bm = true
  oC : mroIn K C (.type "object") = some true
  sa : findIn K (.ref C) "__setattr__" = some (some (.builtin "object.__setattr__"))
  ga : findIn K (.ref C) "__getattribute__" = some (some (.builtin "BaseException.__getattribute__"))
  gq : findIn K (.ref C) "__getattr__" = some none
  ini : findIn K (.ref C) "__init__" = some (some (.ref f))
  tI : typeIn K (.ref f) = some (.type "function")
  kp : keepIn K (.ref C) = true
  bs : subIn K (.ref C) (.type "BaseException") = some true
  xs : subIn K (.ref C) (.type "Exception") = some true
  ty : typeIn K (.ref C) = some (.type "type")
  hd : hasDictIn K C = true
  up : ks_superIn K C C "__init__" = some (some (.builtin "Exception.__init__"))
  me : mroIn K C (.ref C) = some true
  cell : ∃ cl cld csl, K.lookup cc = some ⟨cl, cld, .cell (some (.ref C)), csl⟩
  code : ∃ ccl cdd ccs vs file tf, K.lookup ca = some ⟨ccl, cdd, .fields vs, ccs⟩ ∧ vs[2]? = some (.str file tf) ∧ ((P.main.file : Str) == file) = true
  tp : nsIn K cStatics "thirdparty.any" = some none
  noS : nsIn K mainGlobals "super" = some none
  top : (P.main.scope.names.lookup ("super" : Str)).isSome = false
  li : ∃ (oc doc pm ct : Value) (od an : Option Addr) (osl : Array (Option Value)), K.lookup f = some ⟨oc, od, .func (ksFn "__init__" qual (defArgs s) (defBody s) (defScope s) .none .none doc pm an (.ref ca) ct cc), osl⟩
  cq : codeIn K (.ref ca) qual = true
theorem XF.txt {x : String} {s : Stmt} {C f cc ca : Addr} {qual : Str} (X : K.In h) (G : h.Ns mainGlobals mg) (F : XF P K x s C f cc ca qual) : ∃ cd, Txt P K mg C f cc ca cd := by
  obtain ⟨nm, q, N, bs, bm, sn, sub, ab, col, dd, k0, k1, k2, k3, k5, hC, hb⟩ := F.lC
  have hcl : clsIn K C = some { name := nm, bases := bs, mro := .ref C :: bm, ns := N, qualname := q, hasDict := true, slotNames := sn, subclasses := sub, abstract := ab, collection := col, hasDel := false } := by unfold clsIn; rw [hC] <;> rfl
  refine ⟨_, ⟨nm, q, N, bs, bm, sn, sub, ab, col, dd, k0, k1, k2, k3, k5, hC, hb⟩, ⟨hcl, ?_, F.oC, rfl⟩, F.sa, F.ga, F.gq, F.ini, F.tI, F.kp, F.bs, F.xs, F.ty, F.hd, F.up, F.me, F.cell, F.code, F.tp, mg_none_of X G F.noS, F.top⟩
  exact hb
theorem XF.at2 {x : String} {s : Stmt} {C f cc ca : Addr} {qual : Str} {a b : String} (X : K.In h) (G : h.Ns mainGlobals mg) (F : XF P K x s C f cc ca qual) (S : Shape2 s (Str.ofString a) (Str.ofString b)) (na : findIn K (.ref C) (Str.ofString a) = some none) (nb : findIn K (.ref C) (Str.ofString b) = some none)
    (d1 : ((Str.ofString a : Str) == ("self" : Str)) = false := by decide) (d2 : ((Str.ofString b : Str) == ("self" : Str)) = false := by decide) (d3 : ((Str.ofString a : Str) == Str.ofString b) = false := by decide) (d4 : ((Str.ofString a : Str) == ("__debug__" : Str)) = false := by decide) (d5 : ((Str.ofString b : Str) == ("__debug__" : Str)) = false := by decide) :
    XAt P w K mg x C [a, b] := by
  obtain ⟨cd, T⟩ := F.txt X G
  obtain ⟨oc, doc, pm, ct, od, an, osl, li⟩ := F.li
  obtain ⟨p0, p1, p2, p3, p6, p4, p5, q1, q2, q3, q4, r1, r2, r3, r4, hb, h1, h2, h3, h4, h5, h6, h7, h8, h9, h10, h11, h12⟩ := S
  exact ⟨made2 T ⟨⟨qual, _, _, doc, pm, ct, oc, od, an, osl, p0, p1, p2, p3, p6, p4, p5, q1, q2, q3, q4, r1, r2, r3, r4, _, hb, li, F.cq, h1, h2, h3, h4, h5, h6, h7, h8, h9, h10, fun s x v u => .of_eq (h11 qual doc pm (.ref ca) ct an cc x v u), (h12 f cc ca qual).1, (h12 f cc ca qual).2.1, (h12 f cc ca qual).2.2⟩, d1, d2, d3, d4, d5⟩ na nb, mg_of X G F.aC, F.kp, F.bs, F.ty⟩
theorem XF.at1 {x : String} {s : Stmt} {C f cc ca : Addr} {qual : Str} {a : String} (X : K.In h) (G : h.Ns mainGlobals mg) (F : XF P K x s C f cc ca qual) (S : Shape1 s (Str.ofString a)) (na : findIn K (.ref C) (Str.ofString a) = some none)
    (d1 : ((Str.ofString a : Str) == ("self" : Str)) = false := by decide) (d4 : ((Str.ofString a : Str) == ("__debug__" : Str)) = false := by decide) :
    XAt P w K mg x C [a] := by
  obtain ⟨cd, T⟩ := F.txt X G
  obtain ⟨oc, doc, pm, ct, od, an, osl, li⟩ := F.li
  obtain ⟨p0, p1, p2, p3, p4, p5, q1, q2, q3, q4, hb, h1, h2, h3, h4, h5, h7, h8, h9, h10, h11, h12⟩ := S
  rw [hb] at li
  exact ⟨made1 T ⟨⟨qual, _, _, doc, pm, ct, oc, od, an, osl, p0, p1, p2, p3, p4, p5, q1, q2, q3, q4, li, F.cq, h1, h2, h3, h4, h5, h7, h8, h9, h10, fun s x v => .of_eq (by have := h11 qual doc pm (.ref ca) ct an cc x v; rw [hb] at this; exact this), (h12 f cc ca qual).1, (h12 f cc ca qual).2⟩, d1, d4⟩ na, mg_of X G F.aC, F.kp, F.bs, F.ty⟩
theorem XF.gets {x : String} {s : Stmt} {C f cc ca : Addr} {qual : Str} {a : String} (X : K.In h) (G : h.Ns mainGlobals mg) (F : XF P K x s C f cc ca qual) (na : findIn K (.ref C) (Str.ofString a) = some none) : ∀ C, mg (Str.ofString x) = some (.ref C) → Gets K C (Str.ofString a) := fun C' e => by
  rw [mg_of X G F.aC] at e
  cases e
  exact ⟨F.ga, F.gq, F.bs, F.hd, na⟩
theorem at_mk {x : Str} {st : Stmt} {ps : List Str} {f : Addr} {oc kV doc pm cd ct : Value} {od an : Option Addr} {osl : Array (Option Value)} (X : K.In h) (G : h.Ns mainGlobals mg) (a : nsIn K mainGlobals x = some (some (.ref f))) (l : K.lookup f = some ⟨oc, od, .func (fnOf x x (defArgs st) (defBody st) (defScope st) .none kV doc pm an cd ct), osl⟩) (c : codeIn K cd x = true) (k : keepIn K (.ref f) = true)
    (b : ∀ (kV doc pm : Value) (an : Option Addr) (cdv ct : Value) (us : List Value), us.length = ps.length → bindArgs (fnOf x x (defArgs st) (defBody st) (defScope st) .none kV doc pm an cdv ct) ⟨us, []⟩ = pure (ps.zip us)) :
    At K mg x st ps f (fnOf x x (defArgs st) (defBody st) (defScope st) .none kV doc pm an cd ct) :=
  ⟨mg_of X G a, k, (fun_mk l c k).binds b, fun_mk l c k⟩
theorem atC_mk {x : Str} {st : Stmt} {ps : List Str} {f cA : Addr} {oc kV doc pm ct : Value} {od an : Option Addr} {osl : Array (Option Value)} (X : K.In h) (G : h.Ns mainGlobals mg) (a : nsIn K mainGlobals x = some (some (.ref f))) (l : K.lookup f = some ⟨oc, od, .func (fnOf x x (defArgs st) (defBody st) (defScope st) .none kV doc pm an (.ref cA) ct), osl⟩) (c : codeIn K (.ref cA) x = true) (k : keepIn K (.ref f) = true)
    (b : ∀ (kV doc pm : Value) (an : Option Addr) (cdv ct : Value) (us : List Value), us.length = ps.length → bindArgs (fnOf x x (defArgs st) (defBody st) (defScope st) .none kV doc pm an cdv ct) ⟨us, []⟩ = pure (ps.zip us)) :
    AtC K mg x st ps f (fnOf x x (defArgs st) (defBody st) (defScope st) .none kV doc pm an (.ref cA) ct) cA :=
  ⟨mg_of X G a, k, (fun_mk l c k).binds b, ⟨⟨oc, od, kV, doc, pm, an, ct, osl, rfl, l, c⟩⟩⟩
end
end Bw
set_option linter.all false
set_option autoImplicit false
set_option maxRecDepth 100000
set_option maxHeartbeats 2000000
/-! The law's own call: a script comes in, True goes out. -/
namespace Bw
open PySem PySem.Spec PyProof.Rows L2 LamX
theorem rel_str {s : Str} {cs : List Nat} {t : Tok} (h : s = strOf cs) : RelV (.str (strOf cs)) (.str s t) := by
  subst h
  exact ⟨t, rfl⟩
theorem end_cx {P : Program} {w : World} {H : Hp} {s : Shared} {e : Value} {s' : Shared} (h : L2.CX P w [] H s (fun _ _ _ => False) e s') : False := by
  obtain ⟨_, _, _, _, _, _, _, _, _, _, _, _, h⟩ := h
  exact h
theorem end_at {K : PySem.W.Frag} {mg : Str → Option Value} {cs : List (Addr × Addr)} {T : List (Addr × Str)} {n : Nat} {g : List D → Store → Res D} (hT : ∀ p ∈ T, ∃ q ∈ cs, q.2 = p.1) (hg : ∀ ns : List Int, ns.length ≤ n → (∀ z ∈ ns, Builtin.Int.intBits z ≤ 1048576) → ∃ st, g [.scr ns] [] = .ok (.bl true) st) (H : Hp) (a : Addr) (ns : List Int) (hl : ns.length ≤ n) (hb : ∀ z ∈ ns, Builtin.Int.intBits z ≤ 1048576)
    (hP : ∀ p ∈ cs, H p.2 = some (.tbl #[])) (hS : SqL K H a (ns.map V.int)) : spB ⟨K, mg⟩ T 1 g [.ref a] H (fun v _ => v = .bl true) fun _ _ _ => False := by
  have hH : ∀ p ∈ T, H p.1 = some (.tbl #[]) := fun p hp => by
    obtain ⟨q, hq, e⟩ := hT p hp
    rw [← e]
    exact hP q hq
  have tb : Tabs T H := fun p hp => TabS.nil (hH p hp)
  obtain ⟨st, e⟩ := hg ns hl hb
  have fin : ∀ z : Zw, PstC ⟨K, mg⟩ T z (g [.scr ns] []) (fun v _ => v = .bl true) fun _ _ _ => False := fun z => by
    rw [e]
    intro z' H' v l w rv
    cases rv
    rfl
  refine ⟨rfl, ?_⟩
  rcases hS with r | k
  · have ne : ∀ p ∈ T, p.1 ≠ a := fun p hp q => by
      have := hH p hp
      rw [q] at this
      rcases r with r | ⟨o, r⟩ <;> rw [r] at this <;> cases this
    refine ⟨⟨fun b => if b = a then H a else none, [], fun _ => none⟩, [], [.scr ns], ⟨fun b o h => ?_, rfl, List.nodup_nil, fun n b o h => by simp at h, tb, fun p hp => ⟨if_neg (ne p hp), by simp⟩, fun b o h => by cases h⟩, .cons (.scr (.inl ?_)) .nil, fin _⟩
    · by_cases hb : b = a
      · subst hb
        have h : (if b = b then H b else none) = some o := h
        rw [if_pos rfl] at h
        exact h
      · have h : (if b = a then H a else none) = some o := h
        rw [if_neg hb] at h
        cases h
    · rcases r with r | ⟨o, r⟩
      · exact .inl (by show (if a = a then H a else none) = _; rw [if_pos rfl]; exact r)
      · exact .inr ⟨o, by show (if a = a then H a else none) = _; rw [if_pos rfl]; exact r⟩
  · have w0 : Wf ⟨K, mg⟩ T ⟨fun _ => none, [], fun _ => none⟩ [] H := ⟨(fun b o h => nomatch h), rfl, List.nodup_nil, fun n b o h => by simp at h, tb, fun p hp => ⟨rfl, by simp⟩, fun b o h => nomatch h⟩
    exact ⟨_, [], [.scr ns], w0, .cons (.scr (.inr k)) .nil, fin _⟩
end Bw
set_option Elab.async false
set_option linter.all false
set_option autoImplicit false
set_option maxRecDepth 100000
/-! Plain Lean about the mirrors: how they are worked out. -/
namespace Bw
/-! ### what comes next stays folded until it is reached -/
def Out.sq (o : Out) (n : MS) : Out := match o with
  | .nx ρ st => n ρ st
  | o => o
@[simp] theorem sq_nx (ρ : Env) (st : Store) (n : MS) : (Out.nx ρ st).sq n = n ρ st := rfl
@[simp] theorem sq_rt (d : D) (st : Store) (n : MS) : (Out.rt d st).sq n = .rt d st := rfl
@[simp] theorem sq_er (e : Er) (ρ : Env) (st : Store) (n : MS) : (Out.er e ρ st).sq n = .er e ρ st := rfl
@[simp] theorem sq_bk (ρ : Env) (st : Store) (n : MS) : (Out.bk ρ st).sq n = .bk ρ st := rfl
@[simp] theorem sq_ct (ρ : Env) (st : Store) (n : MS) : (Out.ct ρ st).sq n = .ct ρ st := rfl
def vOf (d : D) (st : Store) : Res D := match d with
  | .clo _ => .no
  | d => .ok d st
def isV : D → Bool
  | .clo _ => false
  | _ => true
@[simp] theorem vOf_non (st : Store) : vOf .non st = .ok .non st := rfl
@[simp] theorem vOf_bl (b : Bool) (st : Store) : vOf (.bl b) st = .ok (.bl b) st := rfl
@[simp] theorem vOf_int (b : Int) (st : Store) : vOf (.int b) st = .ok (.int b) st := rfl
@[simp] theorem vOf_str (b : List Nat) (st : Store) : vOf (.str b) st = .ok (.str b) st := rfl
@[simp] theorem vOf_tup (b : List D) (st : Store) : vOf (.tup b) st = .ok (.tup b) st := rfl
@[simp] theorem vOf_lst (b : List D) (st : Store) : vOf (.lst b) st = .ok (.lst b) st := rfl
@[simp] theorem vOf_ref (b : Nat) (st : Store) : vOf (.ref b) st = .ok (.ref b) st := rfl
@[simp] theorem vOf_scr (b : List Int) (st : Store) : vOf (.scr b) st = .ok (.scr b) st := rfl
theorem vOf_of {d : D} (h : isV d = true) (st : Store) : vOf d st = .ok d st := by cases d <;> first | rfl | cases h
section
variable (ρ : Env) (st : Store) (a b d : ME) (r : MA) (t u : MT) (m n : MS) (f g : D → D → Store → Option D)
theorem x_var (i : Nat) : mVar i ρ st = match ρ[i]? with
  | some (some d) => vOf d st
  | _ => .no := by
  unfold mVar
  generalize ρ[i]? = o
  cases o with
  | none => rfl
  | some o =>
    cases o with
    | none => rfl
    | some d => cases d <;> rfl
@[simp] theorem x_lit (e : D) : mLit e ρ st = .ok e st := rfl
def kOp (f : D → D → Store → Option D) (b : ME) (ρ : Env) (x : D) (st : Store) : Res D := (b ρ st).bind fun y st => ofO (f x y st) st
def kOp2 (f : D → D → Store → Option D) (x y : D) (st : Store) : Res D := ofO (f x y st) st
@[simp] theorem x_op : mOp f a b ρ st = (a ρ st).bind (kOp f b ρ) := rfl
@[simp] theorem x_op1 (x : D) : kOp f b ρ x st = (b ρ st).bind (kOp2 f x) := rfl
@[simp] theorem x_op2 (x y : D) : kOp2 f x y st = ofO (f x y st) st := rfl
def kUn (f : D → Store → Option D) (x : D) (st : Store) : Res D := ofO (f x st) st
@[simp] theorem x_un (f : D → Store → Option D) : mUn f a ρ st = (a ρ st).bind (kUn f) := rfl
@[simp] theorem x_un1 (f : D → Store → Option D) (x : D) : kUn f x st = ofO (f x st) st := rfl
def selE (o : Option Bool) (p q : Res D) : Res D := match o with
  | some true => p
  | some false => q
  | none => .no
def kAnd (b : ME) (ρ : Env) (x : D) (st : Store) : Res D := match truD st x with
  | some true => b ρ st
  | some false => .ok x st
  | none => .no
def kAnd2 (b : ME) (ρ : Env) (x : D) (st : Store) (o : Option Bool) : Res D := match o with
  | some true => b ρ st
  | some false => .ok x st
  | none => .no
@[simp] theorem x_and : mAnd a b ρ st = (a ρ st).bind (kAnd b ρ) := rfl
@[simp] theorem x_and1 (x : D) : kAnd b ρ x st = kAnd2 b ρ x st (truD st x) := rfl
@[simp] theorem x_andT (x : D) : kAnd2 b ρ x st (some true) = b ρ st := rfl
@[simp] theorem x_andF (x : D) : kAnd2 b ρ x st (some false) = .ok x st := rfl
def kOr (b : ME) (ρ : Env) (x : D) (st : Store) : Res D := match truD st x with
  | some true => .ok x st
  | some false => b ρ st
  | none => .no
def kOr2 (b : ME) (ρ : Env) (x : D) (st : Store) (o : Option Bool) : Res D := match o with
  | some true => .ok x st
  | some false => b ρ st
  | none => .no
@[simp] theorem x_or : mOr a b ρ st = (a ρ st).bind (kOr b ρ) := rfl
@[simp] theorem x_or1 (x : D) : kOr b ρ x st = kOr2 b ρ x st (truD st x) := rfl
@[simp] theorem x_orT (x : D) : kOr2 b ρ x st (some true) = .ok x st := rfl
@[simp] theorem x_orF (x : D) : kOr2 b ρ x st (some false) = b ρ st := rfl
def kNot (x : D) (st : Store) : Res D := match truD st x with
  | some k => .ok (.bl (!k)) st
  | none => .no
@[simp] theorem x_not : mNot a ρ st = (a ρ st).bind kNot := rfl
@[simp] theorem x_not1 (x : D) : kNot x st = match truD st x with
  | some k => .ok (.bl (!k)) st
  | none => .no := rfl
def kIf (a b : ME) (ρ : Env) (k : Bool) (st : Store) : Res D := if k then a ρ st else b ρ st
@[simp] theorem x_if : mIf t a b ρ st = (t ρ st).bind (kIf a b ρ) := rfl
@[simp] theorem x_ifT : kIf a b ρ true st = a ρ st := rfl
@[simp] theorem x_ifF : kIf a b ρ false st = b ρ st := rfl
def kTv (x : D) (st : Store) : Res Bool := ofO (truD st x) st
@[simp] theorem x_tVal : tVal a ρ st = (a ρ st).bind kTv := rfl
@[simp] theorem x_tVal1 (x : D) : kTv x st = ofO (truD st x) st := rfl
def kTa (u : MT) (ρ : Env) (k : Bool) (st : Store) : Res Bool := if k then u ρ st else .ok false st
@[simp] theorem x_tAnd : tAnd t u ρ st = (t ρ st).bind (kTa u ρ) := rfl
@[simp] theorem x_tAndT : kTa u ρ true st = u ρ st := rfl
@[simp] theorem x_tAndF : kTa u ρ false st = .ok false st := rfl
def kTo (u : MT) (ρ : Env) (k : Bool) (st : Store) : Res Bool := if k then .ok true st else u ρ st
@[simp] theorem x_tOr : tOr t u ρ st = (t ρ st).bind (kTo u ρ) := rfl
@[simp] theorem x_tOrT : kTo u ρ true st = .ok true st := rfl
@[simp] theorem x_tOrF : kTo u ρ false st = u ρ st := rfl
def kTn (k : Bool) (st : Store) : Res Bool := .ok (!k) st
@[simp] theorem x_tNot : tNot t ρ st = (t ρ st).bind kTn := rfl
@[simp] theorem x_tNot1 (k : Bool) : kTn k st = .ok (!k) st := rfl
def kTc (x : D) (st : Store) : Res Bool := match x with
  | .bl k => .ok k st
  | _ => .no
@[simp] theorem x_tCmp : tCmp a ρ st = (a ρ st).bind kTc := rfl
@[simp] theorem x_tCmp1 (k : Bool) : kTc (.bl k) st = .ok k st := rfl
def kCh (f g : D → D → Store → Option D) (b d : ME) (ρ : Env) (x : D) (st : Store) : Res D := (b ρ st).bind fun y st => match f x y st with
  | some (.bl true) => (d ρ st).bind fun w st => ofO (g y w st) st
  | some (.bl false) => .ok (.bl false) st
  | _ => .no
def kCh2 (g : D → D → Store → Option D) (d : ME) (ρ : Env) (y : D) (st : Store) (o : Option D) : Res D := match o with
  | some (.bl true) => (d ρ st).bind fun w st => ofO (g y w st) st
  | some (.bl false) => .ok (.bl false) st
  | _ => .no
@[simp] theorem x_chain : mChain f g a b d ρ st = (a ρ st).bind (kCh f g b d ρ) := rfl
@[simp] theorem x_chain1 (x : D) : kCh f g b d ρ x st = (b ρ st).bind fun y st => kCh2 g d ρ y st (f x y st) := rfl
@[simp] theorem x_chain2 (y : D) : kCh2 g d ρ y st (some (.bl true)) = (d ρ st).bind (kOp2 g y) := rfl
@[simp] theorem x_chain3 (y : D) : kCh2 g d ρ y st (some (.bl false)) = .ok (.bl false) st := rfl
def kCons (r : MA) (ρ : Env) (x : D) (st : Store) : Res (List D) := (r ρ st).bind fun xs st => .ok (x :: xs) st
def kCons2 (x : D) (xs : List D) (st : Store) : Res (List D) := .ok (x :: xs) st
@[simp] theorem x_nil : aNil ρ st = .ok [] st := rfl
@[simp] theorem x_cons : aCons a r ρ st = (a ρ st).bind (kCons r ρ) := rfl
@[simp] theorem x_cons1 (x : D) : kCons r ρ x st = (r ρ st).bind (kCons2 x) := rfl
@[simp] theorem x_cons2 (x : D) (xs : List D) : kCons2 x xs st = .ok (x :: xs) st := rfl
@[simp] theorem x_tup : mTup r ρ st = (r ρ st).bind fun xs st => if Sz xs.length then .ok (.tup xs) st else .no := rfl
@[simp] theorem x_lst : mLst r ρ st = (r ρ st).bind fun xs st => if Sz xs.length then .ok (.lst xs) st else .no := rfl
@[simp] theorem x_new : mNew r ρ st = (r ρ st).bind fun xs st => if Sz xs.length then .ok (.ref st.length) (st ++ [.lst xs]) else .no := rfl
def kSl (lo hi : Env → Store → Res (Option Int)) (ρ : Env) (x : D) (st : Store) : Res D := (lo ρ st).bind fun l st => (hi ρ st).bind fun h st => ofO (sliD x l h st) st
def kSl2 (hi : Env → Store → Res (Option Int)) (ρ : Env) (x : D) (l : Option Int) (st : Store) : Res D := (hi ρ st).bind fun h st => ofO (sliD x l h st) st
@[simp] theorem x_sli (lo hi : Env → Store → Res (Option Int)) : mSli a lo hi ρ st = (a ρ st).bind (kSl lo hi ρ) := rfl
@[simp] theorem x_sli1 (lo hi : Env → Store → Res (Option Int)) (x : D) : kSl lo hi ρ x st = (lo ρ st).bind (kSl2 hi ρ x) := rfl
@[simp] theorem x_sli2 (hi : Env → Store → Res (Option Int)) (x : D) (l : Option Int) : kSl2 hi ρ x l st = (hi ρ st).bind fun h st => ofO (sliD x l h st) st := rfl
@[simp] theorem x_oN : oNone ρ st = .ok none st := rfl
@[simp] theorem x_oS : oSome a ρ st = (a ρ st).bind fun x st => match x with
  | .int i => .ok (some i) st
  | _ => .no := rfl
@[simp] theorem x_blt (f : List D → Store → Option D) : mBlt f r ρ st = (r ρ st).bind fun xs st => ofO (f xs st) st := rfl
@[simp] theorem x_call (g : List D → Store → Res D) : mCall g r ρ st = (r ρ st).bind g := rfl
def kS1 (f : List Nat → List D → Store → Option D) (r : MA) (ρ : Env) (x : D) (st : Store) : Res D := match x with
  | .str s => (r ρ st).bind fun ds st => ofO (f s ds st) st
  | _ => .no
@[simp] theorem x_str1 (f : List Nat → List D → Store → Option D) : mStr1 f a r ρ st = (a ρ st).bind (kS1 f r ρ) := rfl
@[simp] theorem x_str11 (f : List Nat → List D → Store → Option D) (s : List Nat) : kS1 f r ρ (.str s) st = (r ρ st).bind fun ds st => ofO (f s ds st) st := rfl
@[simp] theorem x_ofS {α : Type} (x : α) : ofO (some x) st = .ok x st := rfl
@[simp] theorem x_ofN {α : Type} : (ofO (none : Option α) st) = .no := rfl
@[simp] theorem x_next : sNext ρ st = .nx ρ st := rfl
@[simp] theorem x_seq : sSeq m n ρ st = (m ρ st).sq n := rfl
@[simp] theorem x_drop : sDrop a ρ st = sBind (a ρ st) ρ fun _ st => .nx ρ st := rfl
@[simp] theorem x_ret : sRet a ρ st = sBind (a ρ st) ρ fun d st => .rt d st := rfl
@[simp] theorem x_retN : sRetN ρ st = .rt .non st := rfl
def kSi (m n : MS) (ρ : Env) (k : Bool) (st : Store) : Out := if k then m ρ st else n ρ st
@[simp] theorem x_sif : sIf t m n ρ st = sBind (t ρ st) ρ (kSi m n ρ) := rfl
@[simp] theorem x_sifT : kSi m n ρ true st = m ρ st := rfl
@[simp] theorem x_sifF : kSi m n ρ false st = n ρ st := rfl
@[simp] theorem x_gN (i : Nat) (e : D) : gN i e ρ = some (ρ.set i (some e)) := rfl
def kG (o : Option Env) (st : Store) : Out := match o with
  | some ρ' => .nx ρ' st
  | none => .no
@[simp] theorem x_asg (g : MG) : sAsg a g ρ st = sBind (a ρ st) ρ fun d st => kG (g d ρ) st := rfl
@[simp] theorem x_asg1 (ρ' : Env) : kG (some ρ') st = .nx ρ' st := rfl
@[simp] theorem x_par (i j : Nat) : sPar i j r ρ st = sBind (r ρ st) ρ fun ds st => match ds with
  | [x, y] => .nx ((ρ.set i (some x)).set j (some y)) st
  | _ => .no := rfl
@[simp] theorem x_gT (gs : List MG) (ds : List D) : gT gs (.tup ds) ρ = gL gs ds ρ := rfl
@[simp] theorem x_gL0 : gL [] [] ρ = some ρ := rfl
@[simp] theorem x_gL1 (g : MG) (gs : List MG) (e : D) (ds : List D) : gL (g :: gs) (e :: ds) ρ = match g e ρ with
  | some ρ' => gL gs ds ρ'
  | none => none := rfl
def kPu (o i : ME) (ρ : Env) (v : D) (st : Store) : Out := sBind (o ρ st) ρ fun x st => sBind (i ρ st) ρ fun k st => match putD x k v st with
  | some st' => .nx ρ st'
  | none => .no
def kPu2 (i : ME) (ρ : Env) (v x : D) (st : Store) : Out := sBind (i ρ st) ρ fun k st => match putD x k v st with
  | some st' => .nx ρ st'
  | none => .no
@[simp] theorem x_put (o i : ME) : sPut o i a ρ st = sBind (a ρ st) ρ (kPu o i ρ) := rfl
@[simp] theorem x_put1 (o i : ME) (v : D) : kPu o i ρ v st = sBind (o ρ st) ρ (kPu2 i ρ v) := rfl
@[simp] theorem x_put2 (i : ME) (v x : D) : kPu2 i ρ v x st = sBind (i ρ st) ρ fun k st => match putD x k v st with
  | some st' => .nx ρ st'
  | none => .no := rfl
@[simp] theorem x_for (it : MI) (g : MG) : sFor it g m ρ st = sBind (it ρ st) ρ fun I st => loopF I.chk g m I.ds ρ st := rfl
@[simp] theorem x_iVal : iVal a ρ st = (a ρ st).bind fun d st => ofO (itemsD st d) st := rfl
@[simp] theorem x_iEnum : iEnum r ρ st = (r ρ st).bind fun ds st => match ds with
  | [d] => ofO ((itemsD st d).map numbI) st
  | _ => .no := rfl
@[simp] theorem x_iRng1 : iRng1 r ρ st = (r ρ st).bind fun ds st => match ds with
  | [.int j] => if Rg j then .ok (still (rng 0 1 j.toNat)) st else .no
  | _ => .no := rfl
@[simp] theorem x_iRng2 : iRng2 r ρ st = (r ρ st).bind fun ds st => match ds with
  | [.int i, .int j] => if Rg i && Rg j then .ok (still (rng i 1 (j - i).toNat)) st else .no
  | _ => .no := rfl
@[simp] theorem x_iRng3 : iRng3 r ρ st = (r ρ st).bind fun ds st => match ds with
  | [.int i, .int j, .int k] => if Rg i && Rg j && decide (k = -1) then .ok (still (rng i (-1) (i - j).toNat)) st else .no
  | _ => .no := rfl
@[simp] theorem x_iZip : iZip r ρ st = (r ρ st).bind fun ds st => match ds with
  | [x, y] => ofO (zipI st x y) st
  | _ => .no := rfl
def kAp (r : ME) (ρ : Env) (x : D) (st : Store) : Res D := match x with
  | .ref n => match st[n]? with
    | some (.lst _) => (r ρ st).bind fun d st => match st[n]? with
      | some (.lst ds) => if Sz (ds.length + 1) then .ok .non (st.set n (.lst (ds ++ [d]))) else .no
      | _ => .no
    | _ => .no
  | _ => .no
@[simp] theorem x_app : mApp a b ρ st = (a ρ st).bind (kAp b ρ) := rfl
def kAp1 (n : Nat) (r : ME) (ρ : Env) (st : Store) (o : Option MO) : Res D := match o with
  | some (.lst _) => (r ρ st).bind fun d st => match st[n]? with
    | some (.lst ds) => if Sz (ds.length + 1) then .ok .non (st.set n (.lst (ds ++ [d]))) else .no
    | _ => .no
  | _ => .no
@[simp] theorem x_app1 (n : Nat) : kAp b ρ (.ref n) st = kAp1 n b ρ st st[n]? := rfl
@[simp] theorem x_app2 (n : Nat) (ds : List D) : kAp1 n b ρ st (some (.lst ds)) = (b ρ st).bind fun d st => match st[n]? with
    | some (.lst ds) => if Sz (ds.length + 1) then .ok .non (st.set n (.lst (ds ++ [d]))) else .no
    | _ => .no := rfl
@[simp] theorem x_aug (i : Nat) : sAug i f a ρ st = match ρ[i]? with
  | some (some x) => sBind (a ρ st) ρ fun y st => match f x y st with
    | some d => .nx (ρ.set i (some d)) st
    | none => .no
  | _ => .no := rfl
@[simp] theorem x_raise (cls : String) (as : List String) : sRaise cls as r ρ st = sBind (r ρ st) ρ fun ds st => if ds.length = as.length then .er ⟨cls, as.zip ds⟩ ρ st else .no := rfl
@[simp] theorem bodyR_rt (e : D) : bodyR (.rt e st) = .ok e st := rfl
@[simp] theorem bodyR_nx : bodyR (.nx ρ st) = .ok .non st := rfl
@[simp] theorem bodyR_er (e : Er) : bodyR (.er e ρ st) = .er e st := rfl
end
section
variable (a b : D) (st : Store)
@[simp] theorem w_add : fAdd a b st = addD a b := rfl
@[simp] theorem w_sub : fSub a b st = subD a b := rfl
@[simp] theorem w_mul : fMul a b st = mulD a b := rfl
@[simp] theorem w_div : fDiv a b st = divD a b := rfl
@[simp] theorem w_mod : fMod a b st = modD a b := rfl
@[simp] theorem w_pow : fPow a b st = powD a b := rfl
@[simp] theorem w_shl : fShl a b st = shlD a b := rfl
@[simp] theorem w_eq : fEq a b st = (eqv st a b).map D.bl := rfl
@[simp] theorem w_ne : fNe a b st = (eqv st a b).map fun k => D.bl (!k) := rfl
@[simp] theorem w_lt : fLt a b st = (ltD a b).map D.bl := rfl
@[simp] theorem w_le : fLe a b st = (leD a b).map D.bl := rfl
@[simp] theorem w_gt : fGt a b st = (gtD a b).map D.bl := rfl
@[simp] theorem w_ge : fGe a b st = (geD a b).map D.bl := rfl
@[simp] theorem w_isN : fIsN a .non st = (isNone a).map D.bl := rfl
@[simp] theorem w_notN : fNotN a .non st = (isNone a).map fun k => D.bl (!k) := rfl
@[simp] theorem w_isB (k : Bool) : fIsB a (.bl k) st = (isBool k a).map D.bl := rfl
@[simp] theorem w_notB (k : Bool) : fNotB a (.bl k) st = (isBool k a).map fun k => D.bl (!k) := rfl
@[simp] theorem w_in : fIn a b st = (inD st a b).map D.bl := rfl
@[simp] theorem w_notin : fNotIn a b st = (inD st a b).map fun k => D.bl (!k) := rfl
@[simp] theorem w_inc (i j : Int) : fInc (.int i) (.int j) st = some (.int (i + j)) := rfl
@[simp] theorem w_lti (i j : Int) : ltD (.int i) (.int j) = some (decide (i < j)) := rfl
@[simp] theorem w_lei (i j : Int) : leD (.int i) (.int j) = some (decide (i ≤ j)) := rfl
@[simp] theorem w_gti (i j : Int) : gtD (.int i) (.int j) = some (decide (j < i)) := rfl
@[simp] theorem w_gei (i j : Int) : geD (.int i) (.int j) = some (decide (j ≤ i)) := rfl
@[simp] theorem w_addi (i j : Int) : addD (.int i) (.int j) = some (.int (i + j)) := rfl
@[simp] theorem w_subi (i j : Int) : subD (.int i) (.int j) = some (.int (i - j)) := rfl
@[simp] theorem w_eqi (i j : Int) : eqv st (.int i) (.int j) = some (decide (i = j)) := rfl
@[simp] theorem w_eqs (i j : List Nat) : eqv st (.str i) (.str j) = some (decide (i = j)) := rfl
end
/-! ### loops -/
section
variable {chk : Store → Prop} {g : MG} {body : MS} {d : D} {ds : List D} {ρ ρ' ρ'' : Env} {st st' : Store} {t : MT}
theorem loop_nil (h : chk st) : loopF chk g body [] ρ st = .nx ρ st := by unfold loopF; rw [if_pos h]
theorem loop_nx (h : chk st) (hg : g d ρ = some ρ') (hb : body ρ' st = .nx ρ'' st') : loopF chk g body (d :: ds) ρ st = loopF chk g body ds ρ'' st' := by
  conv => lhs; unfold loopF
  rw [if_pos h, hg]
  dsimp only
  rw [hb]
theorem loop_rt {e : D} (h : chk st) (hg : g d ρ = some ρ') (hb : body ρ' st = .rt e st') : loopF chk g body (d :: ds) ρ st = .rt e st' := by
  conv => lhs; unfold loopF
  rw [if_pos h, hg]
  dsimp only
  rw [hb]
theorem loop_er {e : Er} (h : chk st) (hg : g d ρ = some ρ') (hb : body ρ' st = .er e ρ'' st') : loopF chk g body (d :: ds) ρ st = .er e ρ'' st' := by
  conv => lhs; unfold loopF
  rw [if_pos h, hg]
  dsimp only
  rw [hb]
/-- a loop under an invariant, of which no turn leaves -/
theorem loop_inv (I : Env → Store → Prop) (hc : ∀ ρ st, I ρ st → chk st) : ∀ (ds : List D), (∀ d ∈ ds, ∀ ρ st, I ρ st → ∃ ρ' ρ'' st', g d ρ = some ρ' ∧ body ρ' st = .nx ρ'' st' ∧ I ρ'' st') → ∀ ρ st, I ρ st → ∃ ρ' st', loopF chk g body ds ρ st = .nx ρ' st' ∧ I ρ' st'
  | [], _, ρ, st, h => ⟨ρ, st, loop_nil (hc ρ st h), h⟩
  | d :: ds, hs, ρ, st, h => by
    obtain ⟨ρ1, ρ2, st1, e1, e2, h2⟩ := hs d List.mem_cons_self ρ st h
    rw [loop_nx (hc ρ st h) e1 e2]
    exact loop_inv I hc ds (fun e he => hs e (List.mem_cons_of_mem _ he)) ρ2 st1 h2
theorem while_nx {st1 : Store} (ht : t ρ st = .ok true st1) (hb : body ρ st1 = .nx ρ' st') : sWhile t body ρ st = sWhile t body ρ' st' := by
  have e : ∀ n, whileF t body (n + 1) ρ st = whileF t body n ρ' st' := fun n => by
    conv => lhs; unfold whileF
    rw [ht]
    simp only [sBind_ok, if_true]
    rw [hb]
  by_cases h : ∃ n, whileF t body n ρ' st' ≠ .no
  · obtain ⟨n, hn⟩ := h
    rw [sWhile_of n rfl hn, sWhile_of (n + 1) (e n) hn]
  · have h2 : ¬ ∃ n, whileF t body n ρ st ≠ .no := fun ⟨n, hn⟩ => by
      cases n with
      | zero => exact hn rfl
      | succ n => exact h ⟨n, by rw [← e]; exact hn⟩
    unfold sWhile
    rw [dif_neg h, dif_neg h2]
theorem while_end {st1 : Store} (ht : t ρ st = .ok false st1) : sWhile t body ρ st = .nx ρ st1 := by
  refine sWhile_of 1 ?_ (by simp)
  unfold whileF
  rw [ht]
  rfl
theorem while_rt {st1 : Store} {e : D} (ht : t ρ st = .ok true st1) (hb : body ρ st1 = .rt e st') : sWhile t body ρ st = .rt e st' := by
  refine sWhile_of 1 ?_ (by simp)
  unfold whileF
  rw [ht]
  simp only [sBind_ok, if_true]
  rw [hb]
end
end Bw
set_option Elab.async false
set_option linter.all false
set_option autoImplicit false
set_option maxRecDepth 100000
/-! The box that draws come from. -/
namespace Bw
/-- the box: at 1, its cells either the list at 0 or its own; at most so many cells -/
def BxT (j st : Store) : Prop := ∃ (cs ds : List Int) (s : Int) (x : D), st = .lst (ds.map .int) :: .lst [x, .int s] :: j ∧ (x = .lst (cs.map .int) ∧ cs.length ≤ 63 ∨ x = .ref 0 ∧ cs = ds ∧ ds.length ≤ 63)
abbrev Bx : Store → Prop := BxT []
theorem shps_ints (n : Nat) : ∀ cs : List Int, shps n (cs.map .int) = true
  | [] => by simp [shps]
  | c :: cs => by
    rw [List.map_cons, shps, shps_ints n cs]
    cases n <;> simp [shp]
theorem Sz_of {n : Nat} (h : n ≤ 16777216) : Sz n = true := decide_eq_true h
def gTake (a b c d e : Int) : MS :=
  (sSeq (sIf (tCmp (mOp fNe (mOp idxD (mVar 0) (mLit (.int 0))) (mLst aNil))) (sSeq (sAsg (mOp idxD (mOp idxD (mVar 0) (mLit (.int 0))) (mLit (.int 0))) (gN 2))
    (sSeq (sPut (mVar 0) (mLit (.int 0)) (mOp fAdd (mIf (tCmp (mOp fGe (mVar 2) (mVar 1))) (mLst (aCons (mOp fDiv (mVar 2) (mVar 1)) aNil)) (mLst aNil)) (mSli (mOp idxD (mVar 0) (mLit (.int 0))) (oSome (mLit (.int 1))) oNone)))
    (sRet (mOp fMod (mBlt fInt (aCons (mVar 2) aNil)) (mVar 1))))) sNext)
    (sSeq (sPut (mVar 0) (mLit (.int 1)) (mOp fMod (mBlt fInt (aCons (mOp fMul (mOp idxD (mVar 0) (mLit (.int 1))) (mLit (.int a))) aNil)) (mLit (.int b))))
    (sRet (mOp fMod (mBlt fInt (aCons (mOp fDiv (mOp fAdd (mOp fMul (mOp idxD (mVar 0) (mLit (.int 1))) (mLit (.int c))) (mLit (.int d))) (mLit (.int e))) aNil)) (mVar 1)))))
theorem mulOk_r {i j : Int} (h : j.natAbs < 18446744073709551616) : mulOk i j = true := by simp [mulOk, h]
theorem divOk_s {i j : Int} (h0 : j ≠ 0) (h : bits j < 9000) : divOk i j = true := by simp [divOk, h0, h]
theorem bits_lt {j : Int} (h : j.natAbs < 2 ^ 60) : bits j < 9000 := by
  unfold bits
  by_cases h0 : j.natAbs = 0
  · rw [h0]; simp
  · have := (Nat.log2_lt h0).mpr h
    omega
theorem fmod_range {i j : Int} (h : 0 < j) : 0 ≤ i.fmod j ∧ i.fmod j < j := ⟨Int.fmod_nonneg_of_pos i h, Int.fmod_lt_of_pos i h⟩
theorem eqDs_nil (cs : List Int) : eqDs (cs.map .int) [] = cs.isEmpty := by cases cs <;> simp [eqDs]
theorem take_ok {a b c d e many : Int} {j st : Store} (B : BxT j st) (hm : 0 < many) (hm2 : many.natAbs < 2 ^ 60) (ha : a.natAbs < 18446744073709551616) (hb : b ≠ 0) (hc : c.natAbs < 18446744073709551616) (he : e ≠ 0) (he2 : e.natAbs < 2 ^ 60) :
    ∃ v st', bodyR (gTake a b c d e (envE 3 ([.ref 1, .int many].map some)) st) = .ok (.int v) st' ∧ BxT j st' ∧ 0 ≤ v ∧ v < many := by
  obtain ⟨cs, ds, s, x, rfl, hx⟩ := B
  have hmn : many ≠ 0 := by omega
  have e0 : envE 3 ([D.ref 1, D.int many].map some) = [some (.ref 1), some (.int many), none] := rfl
  rw [e0]
  have i0 : idxD (.ref 1) (.int 0) (.lst (ds.map .int) :: .lst [x, .int s] :: j) = some x := rfl
  have i1 : idxD (.ref 1) (.int 1) (.lst (ds.map .int) :: .lst [x, .int s] :: j) = some (.int s) := rfl
  have vx : vOf x (.lst (ds.map .int) :: .lst [x, .int s] :: j) = .ok x (.lst (ds.map .int) :: .lst [x, .int s] :: j) := by rcases hx with ⟨rfl, _⟩ | ⟨rfl, _⟩ <;> rfl
  have rdx : rd (.lst (ds.map .int) :: .lst [x, .int s] :: j) x = .lst (cs.map .int) := by rcases hx with ⟨rfl, _⟩ | ⟨rfl, rfl, _⟩ <;> rfl
  have f2 : flat2 x (.lst []) = none := by rcases hx with ⟨rfl, _⟩ | ⟨rfl, rfl, _⟩ <;> rfl
  have ev : eqv (.lst (ds.map .int) :: .lst [x, .int s] :: j) x (.lst []) = some cs.isEmpty := by
    unfold eqv
    rw [f2]
    dsimp only
    rw [rdx]
    have : shp 60 (.lst (cs.map .int)) = true := by rw [shp]; exact shps_ints 59 cs
    rw [this]
    simp [rd, shp, shps, eqD, eqDs_nil]
  cases hcs : cs with
  | nil =>
    rw [hcs] at ev
    refine ⟨(Int.fdiv ((s * a).fmod b * c + d) e).fmod many, (.lst (ds.map .int) :: .lst [x, .int ((s * a).fmod b)] :: j), ?_, ⟨cs, ds, _, x, rfl, hx⟩, fmod_range hm⟩
    simp [gTake, x_var, i0, i1, ev, Sz, fInt, mulD, mulOk_r ha, mulOk_r hc, modD, hb, putD, atN, addD, divD, divOk_s he (bits_lt he2), hmn, idxD, atD, vx]
  | cons c0 cr =>
    rw [hcs] at ev
    have len : cs.length ≤ 63 := by rcases hx with ⟨_, h⟩ | ⟨_, h1, h2⟩; exact h; rw [h1]; exact h2
    have lr : cr.length ≤ 62 := by rw [hcs] at len; simpa using len
    have j0 : ∀ st, (x = .lst (cs.map .int) ∨ st[0]? = some (.lst (ds.map .int)) ∧ x = .ref 0 ∧ cs = ds) → idxD x (.int 0) st = some (.int c0) := fun st h => by
      rcases h with rfl | ⟨h1, rfl, rfl⟩
      · simp [idxD, atD, atN, hcs]
      · simp [idxD, h1, atD, atN, hcs]
    have hj : ∀ st : Store, st[0]? = some (.lst (ds.map .int)) → (x = .lst (cs.map .int) ∨ st[0]? = some (.lst (ds.map .int)) ∧ x = .ref 0 ∧ cs = ds) := fun st h => by
      rcases hx with ⟨h1, _⟩ | ⟨h1, h2, _⟩
      · exact .inl h1
      · exact .inr ⟨h, h1, h2⟩
    have sl : sliD x (some 1) none (.lst (ds.map .int) :: .lst [x, .int s] :: j) = some (.lst (cr.map .int)) := by
      rcases hx with ⟨rfl, _⟩ | ⟨rfl, rfl, _⟩
      · simp [sliD, cut, clip, hcs, List.take_of_length_le]
      · simp [sliD, cut, clip, hcs, List.take_of_length_le]
    have k0 := j0 (.lst (ds.map .int) :: .lst [x, .int s] :: j) (hj _ rfl)
    have z1 : 1 + cr.length ≤ 16777216 := by omega
    have z2 : cr.length ≤ 16777216 := by omega
    have z3 : cr.length + 1 ≤ 16777216 := by omega
    by_cases hc0 : many ≤ c0
    · refine ⟨c0.fmod many, (.lst (ds.map .int) :: .lst [.lst ((c0.fdiv many :: cr).map .int), .int s] :: j), ?_, ⟨c0.fdiv many :: cr, ds, s, _, rfl, .inl ⟨rfl, by simp; omega⟩⟩, fmod_range hm⟩
      simp [gTake, x_var, i0, i1, ev, Sz, fInt, modD, putD, atN, addD, divD, divOk_s hmn (bits_lt hm2), hmn, vx, k0, hc0, sl, z1, z2, z3]
    · refine ⟨c0.fmod many, (.lst (ds.map .int) :: .lst [.lst (cr.map .int), .int s] :: j), ?_, ⟨cr, ds, s, _, rfl, .inl ⟨rfl, by omega⟩⟩, fmod_range hm⟩
      simp [gTake, x_var, i0, i1, ev, Sz, fInt, modD, putD, atN, addD, divD, divOk_s hmn (bits_lt hm2), hmn, vx, k0, hc0, sl, z1, z2, z3]
theorem mulOk_l {i j : Int} (h : i.natAbs < 18446744073709551616) : mulOk i j = true := by simp [mulOk, h]
def gBoxB (a b c d : Int) : MS :=
  (sSeq (sAsg (mOp fAdd (mOp fMul (mBlt fAbs (aCons (mVar 4) aNil)) (mLit (.int 2))) (mBlt fInt (aCons (mOp fLt (mVar 4) (mLit (.int 0))) aNil))) (gN 5))
    (sSeq (sIf (tCmp (mOp fGe (mBlt fAbs (aCons (mVar 4) aNil)) (mOp fPow (mLit (.int 10)) (mLit (.int 18))))) (sDrop (mApp (mVar 1) (mBlt fAbs (aCons (mVar 4) aNil)))) sNext)
    (sAsg (mOp fAdd (mOp fMod (mBlt fInt (aCons (mOp fAdd (mOp fAdd (mOp fMul (mVar 2) (mLit (.int a))) (mOp fMul (mOp fMod (mBlt fInt (aCons (mVar 5) aNil)) (mLit (.int b))) (mOp fAdd (mOp fMul (mLit (.int 2)) (mVar 3)) (mLit (.int c))))) (mLit (.int d))) aNil)) (mLit (.int b))) (mLit (.int 1))) (gN 2))))
noncomputable def gBox (s0 a b c d : Int) : MS :=
  (sSeq (sPar 1 2 (aCons (mNew aNil) (aCons (mLit (.int s0)) aNil)))
    (sSeq (sFor (iEnum (aCons (mSli (mVar 0) oNone (oSome (mLit (.int 63)))) aNil)) (gT [(gN 3), (gN 4)]) (gBoxB a b c d))
    (sRet (mNew (aCons (mVar 1) (aCons (mVar 2) aNil))))))
theorem box_loop {a b c d : Int} (ha : a.natAbs < 18446744073709551616) (hb : 0 < b) (hb2 : b ≤ 4294967296) (x0 : Option D) : ∀ (ns : List Int) (k : Nat) (cs : List Int) (s : Int) (x3 x4 x5 : Option D), cs.length + ns.length ≤ 63 →
    ∃ (cs' : List Int) (s' : Int) (x3' x4' x5' : Option D), loopF (fun _ => True) (gT [gN 3, gN 4]) (gBoxB a b c d) (numb k (ns.map .int)) [x0, some (.ref 0), some (.int s), x3, x4, x5] [.lst (cs.map .int)] = .nx [x0, some (.ref 0), some (.int s'), x3', x4', x5'] [.lst (cs'.map .int)] ∧ cs'.length ≤ 63
  | [], k, cs, s, x3, x4, x5, h => ⟨cs, s, x3, x4, x5, loop_nil trivial, by simpa using h⟩
  | n :: ns, k, cs, s, x3, x4, x5, h => by
    have hb0 : b ≠ 0 := by omega
    have m2 : ∀ i : Int, mulOk i 2 = true := fun i => mulOk_r (by decide)
    have m3 : ∀ i : Int, mulOk 2 i = true := fun i => mulOk_l (by decide)
    have m4 : ∀ i j : Int, mulOk (i.fmod b) j = true := fun i j => mulOk_l (by have := fmod_range (i := i) hb; omega)
    have p1 : powOk 10 18 = true := by decide
    have l1 : cs.length ≤ 16777215 := by simp at h; omega
    rw [List.map_cons, numb]
    by_cases hn : n < 0
    · by_cases hc : (1000000000000000000 : Int) ≤ -n
      · have st1 : gBoxB a b c d [x0, some (.ref 0), some (.int s), some (.int k), some (.int n), x5] [.lst (cs.map .int)] = .nx [x0, some (.ref 0), some (.int (((s * a) + ((-n * 2 + 1).fmod b) * (2 * k + c) + d).fmod b + 1)), some (.int k), some (.int n), some (.int (-n * 2 + 1))] [.lst ((cs ++ [-n]).map .int)] := by
          simp [gBoxB, x_var, fAbs, fInt, hn, mulD, m2, m3, m4, powD, p1, hc, mulOk_r ha, modD, hb0, Sz, l1]
        rw [loop_nx trivial rfl st1]
        exact box_loop ha hb hb2 x0 ns (k + 1) (cs ++ [-n]) _ _ _ _ (by simp at h ⊢; omega)
      · have st1 : gBoxB a b c d [x0, some (.ref 0), some (.int s), some (.int k), some (.int n), x5] [.lst (cs.map .int)] = .nx [x0, some (.ref 0), some (.int (((s * a) + ((-n * 2 + 1).fmod b) * (2 * k + c) + d).fmod b + 1)), some (.int k), some (.int n), some (.int (-n * 2 + 1))] [.lst (cs.map .int)] := by
          simp [gBoxB, x_var, fAbs, fInt, hn, mulD, m2, m3, m4, powD, p1, hc, mulOk_r ha, modD, hb0, Sz, l1]
        rw [loop_nx trivial rfl st1]
        exact box_loop ha hb hb2 x0 ns (k + 1) cs _ _ _ _ (by simp at h ⊢; omega)
    · by_cases hc : (1000000000000000000 : Int) ≤ n
      · have st1 : gBoxB a b c d [x0, some (.ref 0), some (.int s), some (.int k), some (.int n), x5] [.lst (cs.map .int)] = .nx [x0, some (.ref 0), some (.int (((s * a) + ((n * 2 + 0).fmod b) * (2 * k + c) + d).fmod b + 1)), some (.int k), some (.int n), some (.int (n * 2 + 0))] [.lst ((cs ++ [n]).map .int)] := by
          simp [gBoxB, x_var, fAbs, fInt, hn, mulD, m2, m3, m4, powD, p1, hc, mulOk_r ha, modD, hb0, Sz, l1]
        rw [loop_nx trivial rfl st1]
        exact box_loop ha hb hb2 x0 ns (k + 1) (cs ++ [n]) _ _ _ _ (by simp at h ⊢; omega)
      · have st1 : gBoxB a b c d [x0, some (.ref 0), some (.int s), some (.int k), some (.int n), x5] [.lst (cs.map .int)] = .nx [x0, some (.ref 0), some (.int (((s * a) + ((n * 2 + 0).fmod b) * (2 * k + c) + d).fmod b + 1)), some (.int k), some (.int n), some (.int (n * 2 + 0))] [.lst (cs.map .int)] := by
          simp [gBoxB, x_var, fAbs, fInt, hn, mulD, m2, m3, m4, powD, p1, hc, mulOk_r ha, modD, hb0, Sz, l1]
        rw [loop_nx trivial rfl st1]
        exact box_loop ha hb hb2 x0 ns (k + 1) cs _ _ _ _ (by simp at h ⊢; omega)
theorem box_ok {s0 a b c d : Int} (ha : a.natAbs < 18446744073709551616) (hb : 0 < b) (hb2 : b ≤ 4294967296) (ns : List Int) :
    ∃ st, bodyR (gBox s0 a b c d (envE 6 ([.scr ns].map some)) []) = .ok (.ref 1) st ∧ Bx st := by
  have e0 : envE 6 ([D.scr ns].map some) = [some (.scr ns), none, none, none, none, none] := rfl
  rw [e0]
  obtain ⟨cs, s, x3, x4, x5, h1, h2⟩ := box_loop (c := c) (d := d) ha hb hb2 (some (.scr ns)) (ns.take 63) 0 [] s0 none none none (by simp; omega)
  have e1 : (ns.map D.int).take 63 = (ns.take 63).map .int := (List.map_take).symm
  refine ⟨[.lst (cs.map .int), .lst [.ref 0, .int s]], ?_, ⟨cs, cs, s, _, rfl, .inr ⟨rfl, rfl, h2⟩⟩⟩
  have e2 : cut (ns.map D.int) none (some 63) = (ns.take 63).map .int := by
    unfold cut clip
    simp
  simp only [List.map_nil] at h1
  rw [← e1] at h1 e2
  simp [gBox, x_var, Sz, sliD, e2, itemsD, numbI, h1]
end Bw
set_option Elab.async false
set_option linter.all false
set_option autoImplicit false
set_option maxRecDepth 100000
/-! Comprehensions; the law's judge of data. -/
namespace Bw
section
variable {chk : Store → Prop} {g : MG} {t : MT} {e : ME} {d : D} {ds acc : List D} {ρ ρ' : Env} {st st' st2 : Store}
theorem lc_nil (h : chk st) : lcF chk g t e [] acc ρ st = .ok acc st := by unfold lcF; rw [if_pos h]
theorem lc_skip (h : chk st) (hg : g d ρ = some ρ') (ht : t ρ' st = .ok false st') : lcF chk g t e (d :: ds) acc ρ st = lcF chk g t e ds acc ρ st' := by
  conv => lhs; unfold lcF
  rw [if_pos h, hg]
  dsimp only
  rw [ht]
theorem lc_put {y : D} (h : chk st) (hg : g d ρ = some ρ') (ht : t ρ' st = .ok true st') (he : e ρ' st' = .ok y st2) (hz : Sz (acc.length + 1) = true) : lcF chk g t e (d :: ds) acc ρ st = lcF chk g t e ds (acc ++ [y]) ρ st2 := by
  conv => lhs; unfold lcF
  rw [if_pos h, hg]
  dsimp only
  rw [ht]
  dsimp only
  rw [he]
  dsimp only
  rw [if_pos hz]
end
def kLc (r : Res (List D)) : Res D := match r with
  | .ok acc st' => .ok (.lst acc) st'
  | _ => .no
@[simp] theorem x_lc (own : List Nat) (it : MI) (g : MG) (t : MT) (e : ME) (ρ : Env) (st : Store) : mLc own it g t e ρ st = (it ρ st).bind fun I st => kLc (lcF I.chk g t e I.ds [] (wipeE ρ own) st) := rfl
@[simp] theorem x_lc1 (acc : List D) (st : Store) : kLc (.ok acc st) = .ok (.lst acc) st := rfl
/-- a comprehension without a test, each item worked out without a trace -/
theorem lc_map {chk : Store → Prop} {g : MG} {e : ME} {ρ : Env} {st : Store} (hc : chk st) (f : D → D) : ∀ (ds acc : List D), (∀ d ∈ ds, ∃ ρ', g d ρ = some ρ' ∧ e ρ' st = .ok (f d) st) → acc.length + ds.length ≤ 16777216 → lcF chk g tYesM e ds acc ρ st = .ok (acc ++ ds.map f) st
  | [], acc, _, _ => by rw [lc_nil hc]; simp
  | d :: ds, acc, h, hl => by
    obtain ⟨ρ', h1, h2⟩ := h d List.mem_cons_self
    rw [List.length_cons] at hl
    rw [lc_put hc h1 rfl h2 (Sz_of (by omega)), lc_map hc f ds (acc ++ [f d]) (fun x hx => h x (List.mem_cons_of_mem _ hx)) (by simp; omega)]
    simp
/-- item by item -/
inductive All2 (P : D → D → Prop) : List D → List D → Prop
  | nil : All2 P [] []
  | cons {x y : D} {xs ys : List D} : P x y → All2 P xs ys → All2 P (x :: xs) (y :: ys)
/-- .. one that draws on the way: an invariant of the store holds on -/
theorem lc_draw {chk : Store → Prop} {g : MG} {e : ME} {ρ : Env} (I : Store → Prop) (P : D → D → Prop) (hc : ∀ st, I st → chk st) : ∀ (ds acc : List D) (st : Store), I st → (∀ d ∈ ds, ∀ st, I st → ∃ ρ' y st', g d ρ = some ρ' ∧ e ρ' st = .ok y st' ∧ I st' ∧ P d y) → acc.length + ds.length ≤ 16777216 →
    ∃ ys st', lcF chk g tYesM e ds acc ρ st = .ok (acc ++ ys) st' ∧ I st' ∧ All2 P ds ys
  | [], acc, st, hi, _, _ => ⟨[], st, by rw [lc_nil (hc st hi)]; simp, hi, .nil⟩
  | d :: ds, acc, st, hi, h, hl => by
    obtain ⟨ρ', y, st1, h1, h2, h3, h4⟩ := h d List.mem_cons_self st hi
    rw [List.length_cons] at hl
    rw [lc_put (hc st hi) h1 rfl h2 (Sz_of (by omega))]
    obtain ⟨ys, st2, k1, k2, k3⟩ := lc_draw I P hc ds (acc ++ [y]) st1 h3 (fun x hx => h x (List.mem_cons_of_mem _ hx)) (by simp; omega)
    exact ⟨y :: ys, st2, by rw [k1]; simp, k2, .cons h4 k3⟩
/-! ### the judge -/
@[simp] theorem kit_NoneType_tuple : L2.kitB "NoneType" "tuple" = some false := by decide +kernel
@[simp] theorem kit_NoneType_int : L2.kitB "NoneType" "int" = some false := by decide +kernel
@[simp] theorem kit_NoneType_bool : L2.kitB "NoneType" "bool" = some false := by decide +kernel
@[simp] theorem kit_NoneType_str : L2.kitB "NoneType" "str" = some false := by decide +kernel
@[simp] theorem kit_NoneType_list : L2.kitB "NoneType" "list" = some false := by decide +kernel
@[simp] theorem kit_bool_tuple : L2.kitB "bool" "tuple" = some false := by decide +kernel
@[simp] theorem kit_bool_int : L2.kitB "bool" "int" = some true := by decide +kernel
@[simp] theorem kit_bool_bool : L2.kitB "bool" "bool" = some true := by decide +kernel
@[simp] theorem kit_bool_str : L2.kitB "bool" "str" = some false := by decide +kernel
@[simp] theorem kit_bool_list : L2.kitB "bool" "list" = some false := by decide +kernel
@[simp] theorem kit_int_tuple : L2.kitB "int" "tuple" = some false := by decide +kernel
@[simp] theorem kit_int_int : L2.kitB "int" "int" = some true := by decide +kernel
@[simp] theorem kit_int_bool : L2.kitB "int" "bool" = some false := by decide +kernel
@[simp] theorem kit_int_str : L2.kitB "int" "str" = some false := by decide +kernel
@[simp] theorem kit_int_list : L2.kitB "int" "list" = some false := by decide +kernel
@[simp] theorem kit_str_tuple : L2.kitB "str" "tuple" = some false := by decide +kernel
@[simp] theorem kit_str_int : L2.kitB "str" "int" = some false := by decide +kernel
@[simp] theorem kit_str_bool : L2.kitB "str" "bool" = some false := by decide +kernel
@[simp] theorem kit_str_str : L2.kitB "str" "str" = some true := by decide +kernel
@[simp] theorem kit_str_list : L2.kitB "str" "list" = some false := by decide +kernel
@[simp] theorem kit_tuple_tuple : L2.kitB "tuple" "tuple" = some true := by decide +kernel
@[simp] theorem kit_tuple_int : L2.kitB "tuple" "int" = some false := by decide +kernel
@[simp] theorem kit_tuple_bool : L2.kitB "tuple" "bool" = some false := by decide +kernel
@[simp] theorem kit_tuple_str : L2.kitB "tuple" "str" = some false := by decide +kernel
@[simp] theorem kit_tuple_list : L2.kitB "tuple" "list" = some false := by decide +kernel
@[simp] theorem kit_list_tuple : L2.kitB "list" "tuple" = some false := by decide +kernel
@[simp] theorem kit_list_int : L2.kitB "list" "int" = some false := by decide +kernel
@[simp] theorem kit_list_bool : L2.kitB "list" "bool" = some false := by decide +kernel
@[simp] theorem kit_list_str : L2.kitB "list" "str" = some false := by decide +kernel
@[simp] theorem kit_list_list : L2.kitB "list" "list" = some true := by decide +kernel

noncomputable def gIs (g : List D → Store → Res D) : MS :=
  (sSeq (sIf (tVal (mBlt fIsi (aCons (mVar 1) (aCons (mLit (.ty "tuple")) aNil)))) (sSeq (sIf (tOr (tNot (tVal (mBlt fIsi (aCons (mVar 0) (aCons (mLit (.ty "tuple")) aNil))))) (tCmp (mOp fNe (mBlt fLen (aCons (mVar 0) aNil)) (mBlt fLen (aCons (mVar 1) aNil))))) (sRet (mLit (.bl false))) sNext)
    (sRet (mOp fEq (mLc [2, 3] (iZip (aCons (mVar 0) (aCons (mVar 1) aNil))) (gT [(gN 2), (gN 3)]) (tNot (tVal (mCall (fun ds st => if ds.length = 2 then g ds st else .no) (aCons (mVar 2) (aCons (mVar 3) aNil))))) (mLit (.int 1))) (mLst aNil)))) sNext)
    (sSeq (sIf (tOr (tCmp (mOp fIsN (mVar 1) (mLit .non))) (tOr (tCmp (mOp fIsB (mVar 1) (mLit (.bl true)))) (tCmp (mOp fIsB (mVar 1) (mLit (.bl false)))))) (sRet (mIf (tCmp (mOp fIsN (mVar 1) (mLit .non))) (mOp fIsN (mVar 0) (mLit .non)) (mIf (tCmp (mOp fIsB (mVar 1) (mLit (.bl true)))) (mOp fIsB (mVar 0) (mLit (.bl true))) (mOp fIsB (mVar 0) (mLit (.bl false)))))) sNext)
    (sSeq (sIf (tVal (mBlt fIsi (aCons (mVar 1) (aCons (mLit (.ty "int")) aNil)))) (sRet (mAnd (mBlt fIsi (aCons (mVar 0) (aCons (mLit (.ty "int")) aNil))) (mAnd (mNot (mBlt fIsi (aCons (mVar 0) (aCons (mLit (.ty "bool")) aNil)))) (mOp fEq (mVar 0) (mVar 1))))) sNext)
    (sRet (mAnd (mBlt fIsi (aCons (mVar 1) (aCons (mLit (.ty "str")) aNil))) (mAnd (mBlt fIsi (aCons (mVar 0) (aCons (mLit (.ty "str")) aNil))) (mOp fEq (mVar 0) (mVar 1))))))))
noncomputable def rIs : Nat → List D → Store → Res D
  | 0 => fun _ _ => .no
  | k + 1 => fun ds st => bodyR (gIs (rIs k) (envE 4 (ds.map some)) st)
mutual
def isP : Nat → D → Bool
  | 0, _ => false
  | _ + 1, .non => true
  | _ + 1, .bl _ => true
  | _ + 1, .int _ => true
  | _ + 1, .str _ => true
  | k + 1, .tup ds => isPs k ds
  | _ + 1, _ => false
def isPs : Nat → List D → Bool
  | _, [] => true
  | k, d :: ds => isP k d && isPs k ds
end
theorem isP_v {k : Nat} {d : D} (h : isP k d = true) : isV d = true := by
  cases k with
  | zero => simp [isP] at h
  | succ k => cases d <;> first | rfl | simp [isP] at h
theorem is_refl : ∀ (k : Nat) (d : D) (st : Store), isP k d = true → rIs k [d, d] st = .ok (.bl true) st
  | 0, d, st, h => by simp [isP] at h
  | k + 1, d, st, h => by
    have e0 : envE 4 ([d, d].map some) = [some d, some d, none, none] := rfl
    show bodyR (gIs (rIs k) (envE 4 ([d, d].map some)) st) = _
    rw [e0]
    cases d with
    | non => simp [gIs, x_var, fIsi, tyD, isNone, isBool, truD, fIsN, fIsB]
    | bl b => cases b <;> simp [gIs, x_var, fIsi, tyD, isNone, isBool, truD, fIsN, fIsB]
    | int i => simp [gIs, x_var, fIsi, tyD, isNone, isBool, truD, fIsN, fIsB]
    | str s => simp [gIs, x_var, fIsi, tyD, isNone, isBool, truD, fIsN, fIsB]
    | tup ds =>
      have hp : isPs k ds = true := by simpa [isP] using h
      have lp : ∀ (es : List D) (ρ : Env) (st : Store), isPs k es = true → lcF (fun _ => True) (gT [gN 2, gN 3]) (tNot (tVal (mCall (fun ds st => if ds.length = 2 then rIs k ds st else .no) (aCons (mVar 2) (aCons (mVar 3) aNil))))) (mLit (.int 1)) (zipD es es) [] [some (.tup ds), some (.tup ds), none, none] st = .ok [] st := by
        intro es
        induction es with
        | nil => intro ρ st _; exact lc_nil trivial
        | cons x xs ih =>
          intro ρ st hx
          have h1 : isP k x = true ∧ isPs k xs = true := by simpa [isPs] using hx
          have hv := isP_v h1.1
          show lcF _ _ _ _ (.tup [x, x] :: zipD xs xs) [] _ st = _
          rw [lc_skip trivial (ρ' := [some (.tup ds), some (.tup ds), some x, some x]) (st' := st) rfl (by simp [x_var, vOf_of hv, is_refl k x st h1.1, truD])]
          exact ih ρ st h1.2
      have zi : zipI st (.tup ds) (.tup ds) = some ⟨zipD ds ds, fun st => True ∧ True⟩ := rfl
      have w2 : wipeE [some (.tup ds), some (.tup ds), none, none] [2, 3] = [some (.tup ds), some (.tup ds), none, none] := rfl
      have q := lp ds [] st hp
      simp [gIs, x_var, fIsi, tyD, truD, fLen, lenD, zi, w2, q, eqv, flat2, rd, shp, shps, eqD, eqDs, Sz]
    | _ => simp [isP] at h
end Bw
set_option Elab.async false
set_option linter.all false
set_option autoImplicit false
set_option maxRecDepth 100000
/-! What is laid on the way is forgotten. -/
namespace Bw
def lowS (n : Nat) (s : Store) : Bool := s.all fun o => lowO n o
def forget (g : List D → Store → Res D) : List D → Store → Res D := fun ds st => match g ds st with
  | .ok d s => if decide (st.length ≤ s.length) && lowS st.length (s.take st.length) && lowD st.length d then .ok d (s.take st.length) else .ok d s
  | .er e s => if decide (st.length ≤ s.length) && lowS st.length (s.take st.length) && lowF st.length e.fs then .er e (s.take st.length) else .er e s
  | .no => .no
theorem keeps_of {st s : Store} (h1 : st.length ≤ s.length) (h2 : lowS st.length (s.take st.length) = true) : ∃ j, s = s.take st.length ++ j ∧ Keeps st (s.take st.length) j := by
  refine ⟨s.drop st.length, (List.take_append_drop _ _).symm, .inr ⟨by rw [List.length_take]; omega, fun n o e => .inr ?_⟩⟩
  unfold lowS at h2
  rw [List.all_eq_true] at h2
  exact h2 o (List.mem_of_getElem? e)
theorem forget_sub (g : List D → Store → Res D) (ds : List D) (st : Store) : SubR st (g ds st) (forget g ds st) := by
  unfold forget
  cases e : g ds st with
  | no => trivial
  | ok d s =>
    dsimp only
    split
    · rename_i h
      simp only [Bool.and_eq_true, decide_eq_true_eq] at h
      obtain ⟨⟨h1, h2⟩, h3⟩ := h
      obtain ⟨j, k1, k2⟩ := keeps_of h1 h2
      exact ⟨rfl, j, k1, k2, .inr h3⟩
    · exact SubR.refl _
  | er er s =>
    dsimp only
    split
    · rename_i h
      simp only [Bool.and_eq_true, decide_eq_true_eq] at h
      obtain ⟨⟨h1, h2⟩, h3⟩ := h
      obtain ⟨j, k1, k2⟩ := keeps_of h1 h2
      exact ⟨rfl, j, k1, k2, .inr h3⟩
    · exact SubR.refl _
theorem forget_ok {g : List D → Store → Res D} {ds : List D} {st st' j : Store} {d : D} (h : g ds st = .ok d (st' ++ j)) (hl : st'.length = st.length) (hs : lowS st.length st' = true) (hd : lowD st.length d = true) : forget g ds st = .ok d st' := by
  unfold forget
  rw [h]
  dsimp only
  have e : (st' ++ j).take st.length = st' := by rw [← hl, List.take_left]
  rw [e, if_pos]
  simp [hl, hs, hd]
theorem forget_er {g : List D → Store → Res D} {ds : List D} {st st' j : Store} {e : Er} (h : g ds st = .er e (st' ++ j)) (hl : st'.length = st.length) (hs : lowS st.length st' = true) (hd : lowF st.length e.fs = true) : forget g ds st = .er e st' := by
  unfold forget
  rw [h]
  dsimp only
  have e : (st' ++ j).take st.length = st' := by rw [← hl, List.take_left]
  rw [e, if_pos]
  simp [hl, hs, hd]
theorem lowDs_ints (n : Nat) : ∀ cs : List Int, lowDs n (cs.map .int) = true
  | [] => rfl
  | c :: cs => by rw [List.map_cons, lowDs, lowDs_ints n cs]; rfl
theorem Bx.low {st : Store} (B : Bx st) : lowS st.length st = true ∧ st.length = 2 := by
  obtain ⟨cs, ds, s, x, rfl, hx⟩ := B
  refine ⟨?_, rfl⟩
  have hx' : lowD 2 x = true := by
    rcases hx with ⟨rfl, _⟩ | ⟨rfl, _⟩
    · rw [lowD]; exact lowDs_ints 2 cs
    · rfl
  show ([MO.lst (ds.map .int), MO.lst [x, .int s]] : Store).all (lowO 2) = true
  simp [lowO, lowDs, lowDs_ints, hx', lowD]
theorem lowDs_strs (n : Nat) : ∀ cs : List (List Nat), lowDs n (cs.map .str) = true
  | [] => rfl
  | c :: cs => by rw [List.map_cons, lowDs, lowDs_strs n cs]; rfl
end Bw
set_option Elab.async false
set_option linter.all false
set_option autoImplicit false
set_option maxRecDepth 100000
/-! Law k01, plain: texts and their groups. -/
namespace K01
open Bw
/-- 1 letters, 2 figures, 0 else -/
def kd (c : Nat) : Nat := if 97 ≤ c ∧ c ≤ 122 then 1 else if 48 ≤ c ∧ c ≤ 57 then 2 else 0
def gp (c : Nat) : Bool := c == 32 || c == 10
def okc (c : Nat) : Bool := kd c != 0 || c == 45 || gp c
inductive Gs : List Nat → List (List Nat) → Prop
  | nil : Gs [] []
  | gap {c : Nat} {r : List Nat} {gs : List (List Nat)} : gp c = true → Gs r gs → Gs (c :: r) gs
  | bar {r : List Nat} {gs : List (List Nat)} : Gs r gs → Gs (45 :: r) ([45] :: gs)
  | run {k c : Nat} {g r : List Nat} {gs : List (List Nat)} : k ≠ 0 → (∀ x ∈ c :: g, kd x = k) → (∀ x, r.head? = some x → kd x ≠ k) → Gs r gs → Gs ((c :: g) ++ r) ((c :: g) :: gs)
theorem span_kd (k : Nat) : ∀ t : List Nat, ∃ g r, t = g ++ r ∧ (∀ x ∈ g, kd x = k) ∧ ∀ x, r.head? = some x → kd x ≠ k
  | [] => ⟨[], [], rfl, by simp, by simp⟩
  | c :: t => by
    by_cases h : kd c = k
    · obtain ⟨g, r, e, h1, h2⟩ := span_kd k t
      exact ⟨c :: g, r, by rw [e]; rfl, fun x hx => by
        rcases List.mem_cons.mp hx with rfl | hx
        · exact h
        · exact h1 x hx, h2⟩
    · exact ⟨[], c :: t, rfl, by simp, fun x hx => by simp at hx; rw [← hx]; exact h⟩
theorem gs_ex : ∀ (n : Nat) (t : List Nat), t.length ≤ n → (∀ c ∈ t, okc c = true) → ∃ gs, Gs t gs
  | _, [], _, _ => ⟨[], .nil⟩
  | 0, c :: t, h, _ => by simp at h
  | n + 1, c :: t, h, ho => by
    have hl : t.length ≤ n := by simpa using h
    have hc := ho c List.mem_cons_self
    have ht : ∀ c ∈ t, okc c = true := fun x hx => ho x (List.mem_cons_of_mem _ hx)
    by_cases hg : gp c = true
    · obtain ⟨gs, q⟩ := gs_ex n t hl ht
      exact ⟨gs, .gap hg q⟩
    · by_cases hb : c = 45
      · obtain ⟨gs, q⟩ := gs_ex n t hl ht
        subst hb
        exact ⟨_, .bar q⟩
      · have hk : kd c ≠ 0 := by
          intro e
          simp [okc, e, hb, hg] at hc
        obtain ⟨g, r, e, h1, h2⟩ := span_kd (kd c) t
        obtain ⟨gs, q⟩ := gs_ex n r (by rw [e] at hl; simp at hl; omega) (fun x hx => ht x (by rw [e]; simp [hx]))
        refine ⟨(c :: g) :: gs, ?_⟩
        rw [e]
        exact .run hk (fun x hx => by
          rcases List.mem_cons.mp hx with rfl | hx
          · rfl
          · exact h1 x hx) h2 q
/-! ### the law's own way: gaps put in, cut at gaps -/
def bd (a b : Nat) : Bool := !(a == 45 || a == 32) && !(b == 45 || b == 32) && (decide (48 ≤ b ∧ b ≤ 57) != decide (48 ≤ a ∧ a ≤ 57))
def ins : List Nat → List Nat
  | [] => []
  | [a] => [a]
  | a :: b :: r => if bd a b then a :: 32 :: ins (b :: r) else a :: ins (b :: r)
def words (l : List Nat) : List (List Nat) := (splD 32 l).filter fun w => !w.isEmpty
def repl (t : List Nat) : List Nat := repD 45 [32, 45, 32] (repD 10 [32] t)
theorem repl_nil : repl [] = [] := rfl
theorem repl_cons (c : Nat) (t : List Nat) : repl (c :: t) = (if c = 10 then [32] else if c = 45 then [32, 45, 32] else [c]) ++ repl t := by
  unfold repl repD
  by_cases h1 : c = 10
  · subst h1; simp
  · by_cases h2 : c = 45
    · subst h2; simp
    · simp [h1, h2]
theorem words_gap (l : List Nat) : words (32 :: l) = words l := by simp [words, splD]
theorem splD_app (g l : List Nat) (hg : ∀ x ∈ g, x ≠ 32) : splD 32 (g ++ 32 :: l) = g :: splD 32 l := by
  induction g with
  | nil => simp [splD]
  | cons c g ih =>
    have hc : c ≠ 32 := hg c List.mem_cons_self
    rw [List.cons_append, splD, if_neg hc, ih fun x hx => hg x (List.mem_cons_of_mem _ hx)]
theorem splD_end (g : List Nat) (hg : ∀ x ∈ g, x ≠ 32) : splD 32 g = [g] := by
  induction g with
  | nil => rfl
  | cons c g ih =>
    have hc : c ≠ 32 := hg c List.mem_cons_self
    rw [splD, if_neg hc, ih fun x hx => hg x (List.mem_cons_of_mem _ hx)]
theorem words_app (g l : List Nat) (hg : ∀ x ∈ g, x ≠ 32) (h0 : g ≠ []) : words (g ++ 32 :: l) = g :: words l := by
  unfold words
  rw [splD_app g l hg]
  cases g with
  | nil => exact absurd rfl h0
  | cons c g => rfl
theorem words_end (g : List Nat) (hg : ∀ x ∈ g, x ≠ 32) (h0 : g ≠ []) : words g = [g] := by
  unfold words
  rw [splD_end g hg]
  cases g with
  | nil => exact absurd rfl h0
  | cons c g => rfl
theorem kd_fig {a : Nat} (h : kd a ≠ 0) : decide (48 ≤ a ∧ a ≤ 57) = decide (kd a = 2) := by
  unfold kd at h ⊢
  by_cases h1 : 97 ≤ a ∧ a ≤ 122
  · rw [if_pos h1]; simp; omega
  · rw [if_neg h1] at h ⊢
    by_cases h2 : 48 ≤ a ∧ a ≤ 57
    · rw [if_pos h2]; simp [h2]
    · rw [if_neg h2] at h; exact absurd rfl h
theorem kd_ne {a : Nat} (h : kd a ≠ 0) : a ≠ 32 ∧ a ≠ 45 ∧ a ≠ 10 := by
  refine ⟨?_, ?_, ?_⟩ <;> (rintro rfl; exact h (by decide))
theorem kd_le (a : Nat) : kd a ≤ 2 := by unfold kd; split; omega; split <;> omega
theorem ins_run {k : Nat} (hk : k ≠ 0) : ∀ (g : List Nat) (c : Nat) (x : List Nat), (∀ y ∈ c :: g, kd y = k) → (∀ y, x.head? = some y → y = 32 ∨ (kd y ≠ 0 ∧ kd y ≠ k)) →
    ins ((c :: g) ++ x) = (c :: g) ++ match x with
      | [] => []
      | y :: r => if y = 32 then ins x else 32 :: ins x
  | [], c, x, hg, hx => by
    have hc := hg c List.mem_cons_self
    cases x with
    | nil => rfl
    | cons y r =>
      have hc0 : kd c ≠ 0 := by rw [hc]; exact hk
      obtain ⟨n1, n2, n3⟩ := kd_ne hc0
      show ins (c :: y :: r) = c :: (if y = 32 then ins (y :: r) else 32 :: ins (y :: r))
      rcases hx y rfl with rfl | ⟨h1, h2⟩
      · simp [ins, bd]
      · obtain ⟨m1, m2, m3⟩ := kd_ne h1
        have b1 : bd c y = true := by
          unfold bd
          rw [kd_fig hc0, kd_fig h1]
          have l1 := kd_le c
          have l2 := kd_le y
          simp [n1, n2, m1, m2]
          rw [hc]
          omega
        rw [ins, if_pos b1, if_neg m1]
  | d :: g, c, x, hg, hx => by
    have hc := hg c List.mem_cons_self
    have hd := hg d (by simp)
    have b0 : bd c d = false := by
      unfold bd
      rw [kd_fig (show kd c ≠ 0 by rw [hc]; exact hk), kd_fig (show kd d ≠ 0 by rw [hd]; exact hk), hc, hd]
      simp
    show ins (c :: d :: (g ++ x)) = c :: ((d :: g) ++ _)
    rw [ins, b0]
    simp only [Bool.false_eq_true, if_false]
    rw [← ins_run hk g d x (fun y hy => hg y (List.mem_cons_of_mem _ hy)) hx]
    rfl
theorem repl_run {k : Nat} (hk : k ≠ 0) (r : List Nat) : ∀ g : List Nat, (∀ y ∈ g, kd y = k) → repl (g ++ r) = g ++ repl r
  | [], _ => rfl
  | c :: g, hg => by
    obtain ⟨n1, n2, n3⟩ := kd_ne (a := c) (by rw [hg c List.mem_cons_self]; exact hk)
    rw [List.cons_append, repl_cons, if_neg n3, if_neg n2, repl_run hk r g fun y hy => hg y (List.mem_cons_of_mem _ hy)]
    rfl
/-- the law's groups are the groups -/
theorem law_gs {t : List Nat} {gs : List (List Nat)} (h : Gs t gs) (ho : ∀ c ∈ t, okc c = true) : words (ins (repl t)) = gs := by
  induction h with
  | nil => rfl
  | @gap c r gs hg _ ih =>
    have e : repl (c :: r) = 32 :: repl r := by
      rw [repl_cons]
      have : c = 32 ∨ c = 10 := by simpa [gp] using hg
      rcases this with rfl | rfl <;> simp
    have ih' := ih fun x hx => ho x (List.mem_cons_of_mem _ hx)
    rw [e]
    cases hr : repl r with
    | nil => rw [hr] at ih'; rw [← ih']; rfl
    | cons y l =>
      rw [hr] at ih'
      rw [ins]
      simp [bd, words_gap]
      exact ih'
  | @bar r gs _ ih =>
    have ih' := ih fun x hx => ho x (List.mem_cons_of_mem _ hx)
    rw [repl_cons]
    simp only [if_true, Nat.reduceEqDiff, if_false]
    have e : ins ([32, 45, 32] ++ repl r) = 32 :: ([45] ++ 32 :: ins (repl r)) := by
      cases hr : repl r with
      | nil => simp [ins, bd]
      | cons y l => simp [ins, bd]
    rw [e, words_gap, words_app [45] _ (by simp) (by simp), ih']
  | @run k c g r gs hk hg hr _ ih =>
    have ih' := ih fun x hx => ho x (by simp [hx])
    rw [repl_run hk r (c :: g) hg]
    have g32 : ∀ x ∈ c :: g, x ≠ 32 := fun x hx => (kd_ne (by rw [hg x hx]; exact hk)).1
    have hx : ∀ y, (repl r).head? = some y → y = 32 ∨ (kd y ≠ 0 ∧ kd y ≠ k) := by
      intro y hy
      cases r with
      | nil => simp [repl_nil] at hy
      | cons z r =>
        have oz := ho z (by simp)
        rw [repl_cons] at hy
        by_cases h1 : z = 10
        · subst h1; simp at hy; exact .inl hy.symm
        · by_cases h2 : z = 45
          · subst h2; simp at hy; exact .inl hy.symm
          · simp [h1, h2] at hy
            subst hy
            by_cases h3 : z = 32
            · exact .inl h3
            · refine .inr ⟨?_, hr z rfl⟩
              intro e
              simp [okc, e, h2, gp, h3, h1] at oz
    rw [ins_run hk g c (repl r) hg hx]
    cases hrr : repl r with
    | nil =>
      rw [hrr] at ih'
      have : gs = [] := by rw [← ih']; rfl
      rw [this]
      simp only [List.append_nil]
      exact words_end _ g32 (by simp)
    | cons y l =>
      rw [hrr] at ih' hx
      simp only
      by_cases h32 : y = 32
      · subst h32
        rw [if_pos rfl]
        have e : ins (32 :: l) = 32 :: ins l := by
          cases l with
          | nil => rfl
          | cons z l => simp [ins, bd]
        rw [e, words_app _ _ g32 (by simp)]
        rw [e, words_gap] at ih'
        rw [ih']
      · rw [if_neg h32, words_app _ _ g32 (by simp), ih']
/-- what a group is -/
def good (g : List Nat) : Prop := g = [45] ∨ ∃ k c r, k ≠ 0 ∧ g = c :: r ∧ ∀ x ∈ c :: r, kd x = k
theorem gs_good {t : List Nat} {gs : List (List Nat)} (h : Gs t gs) : ∀ g ∈ gs, good g := by
  induction h with
  | nil => simp
  | gap _ _ ih => exact ih
  | bar _ ih =>
    intro g hg
    rcases List.mem_cons.mp hg with rfl | hg
    · exact .inl rfl
    · exact ih g hg
  | @run k c g r gs hk hg _ _ ih =>
    intro x hx
    rcases List.mem_cons.mp hx with rfl | hx
    · exact .inr ⟨k, c, g, hk, rfl, hg⟩
    · exact ih x hx
theorem gs_gaps {r : List Nat} {gs : List (List Nat)} (h : Gs r gs) : ∀ w : List Nat, (∀ c ∈ w, gp c = true) → Gs (w ++ r) gs
  | [], _ => h
  | c :: w, hw => .gap (hw c List.mem_cons_self) (gs_gaps h w fun x hx => hw x (List.mem_cons_of_mem _ hx))
theorem kd_gp {c : Nat} (h : gp c = true) : kd c = 0 := by
  have : c = 32 ∨ c = 10 := by simpa [gp] using h
  rcases this with rfl | rfl <;> decide
/-- each group with gaps behind -/
theorem gs_loose : ∀ (ps : List (List Nat × List Nat)), (∀ p ∈ ps, good p.1 ∧ p.2 ≠ [] ∧ ∀ c ∈ p.2, gp c = true) → Gs (ps.flatMap fun p => p.1 ++ p.2) (ps.map (·.1))
  | [], _ => .nil
  | p :: ps, h => by
    obtain ⟨h1, h2, h3⟩ := h p List.mem_cons_self
    have ih := gs_gaps (gs_loose ps fun x hx => h x (List.mem_cons_of_mem _ hx)) p.2 h3
    rw [List.flatMap_cons, List.map_cons, List.append_assoc]
    rcases h1 with e | ⟨k, c, g, hk, e, hg⟩
    · rw [e]
      exact .bar ih
    · rw [e]
      refine .run hk hg (fun x hx => ?_) ih
      cases hw : p.2 with
      | nil => exact absurd hw h2
      | cons y w =>
        rw [hw] at hx
        have : y = x := by simpa using hx
        rw [← this, kd_gp (h3 y (by rw [hw]; exact List.mem_cons_self))]
        exact fun e => hk e.symm
/-- .. with a gap only where two of a kind meet -/
def alike (p g : List Nat) : Bool := match p.getLast? with
  | none => false
  | some a => a != 45 && g != [45] && (decide (48 ≤ a ∧ a ≤ 57) == match g with
    | [] => false
    | b :: _ => decide (48 ≤ b ∧ b ≤ 57))
def tgt : List Nat → List (List Nat) → List Nat
  | _, [] => []
  | p, g :: gs => (if alike p g then [32] else []) ++ g ++ tgt g gs
theorem gs_sep {b : Bool} {t : List Nat} {gs : List (List Nat)} (h : Gs t gs) : Gs ((if b then [32] else []) ++ t) gs := by
  cases b with
  | false => exact h
  | true => exact .gap rfl h
theorem getLast_all {P : Nat → Prop} {c : Nat} {g : List Nat} (h : ∀ x ∈ c :: g, P x) : ∃ a, (c :: g).getLast? = some a ∧ P a := by
  refine ⟨(c :: g).getLast (by simp), List.getLast?_eq_some_getLast (by simp), h _ (List.getLast_mem _)⟩
theorem gs_tight : ∀ (gs : List (List Nat)) (p : List Nat), (∀ g ∈ gs, good g) → Gs (tgt p gs) gs
  | [], _, _ => .nil
  | g :: gs, p, h => by
    have ih := gs_tight gs g fun x hx => h x (List.mem_cons_of_mem _ hx)
    rw [tgt, List.append_assoc]
    refine gs_sep ?_
    rcases h g List.mem_cons_self with rfl | ⟨k, c, r, hk, rfl, hg⟩
    · exact .bar ih
    · refine .run hk hg (fun x hx => ?_) ih
      cases gs with
      | nil => simp [tgt] at hx
      | cons g2 gs =>
        obtain ⟨a, ha, hka⟩ := getLast_all (P := fun x => kd x = k) hg
        rw [tgt, List.append_assoc] at hx
        by_cases hal : alike (c :: r) g2 = true
        · rw [if_pos hal] at hx
          have : 32 = x := by simpa using hx
          rw [← this]
          exact fun e => hk (by rw [← e]; decide)
        · rw [if_neg hal] at hx
          rcases h g2 (by simp) with rfl | ⟨k2, c2, r2, hk2, rfl, hg2⟩
          · have : 45 = x := by simpa using hx
            rw [← this]
            exact fun e => hk (by rw [← e]; decide)
          · have e : c2 = x := by simpa using hx
            rw [← e]
            intro e2
            refine hal ?_
            have ka : kd a ≠ 0 := by rw [hka]; exact hk
            have kc : kd c2 ≠ 0 := by rw [e2]; exact hk
            unfold alike
            rw [ha]
            have n1 := (kd_ne ka).2.1
            have n2 := (kd_ne kc).2.1
            simp only
            rw [kd_fig ka, kd_fig kc, hka, e2]
            simp [n1, n2]
end K01
set_option Elab.async false
set_option linter.all false
set_option autoImplicit false
set_option maxRecDepth 100000
set_option maxHeartbeats 4000000
/-! printed by wip/gen.py: what each def does, by data, and its walk -/
namespace K01
open PySem PySem.Spec PyProof.Rows L2 Bw LamX
def top (i : Nat) : Stmt := PySem.Challenge.pw_blownalong_k01_whole_texts_cut_into_grou.main.body.getD i (.Pass ⟨0, 0, 0, 0⟩)
def k_READINGS : D := (.tup [(.str [110, 111, 32, 116, 101, 120, 116]), (.str [110, 111, 32, 115, 117, 99, 104, 32, 115, 105, 103, 110]), (.str [116, 111, 111, 32, 109, 97, 110, 121, 32, 103, 114, 111, 117, 112, 115]), (.str [116, 111, 111, 32, 108, 111, 110, 103]), (.str [110, 111, 116, 32, 116, 104, 105, 115, 32, 104, 101, 114, 101])])
abbrev s_row_end : Stmt := (top 10)
abbrev s_group_end : Stmt := (top 11)
abbrev s_cut_groups : Stmt := (top 12)
abbrev s__law_box : Stmt := (top 14)
abbrev s__law_take : Stmt := (top 15)
abbrev s__law_pick : Stmt := (top 16)
abbrev s__law_is : Stmt := (top 17)
abbrev s__law_all : Stmt := (top 18)
abbrev s__law_error : Stmt := (top 19)
abbrev s__law_wind : Stmt := (top 20)
abbrev s__law_raw : Stmt := (top 21)
abbrev s__law_number : Stmt := (top 22)
abbrev s__law_text : Stmt := (top 23)
abbrev s__law_groups : Stmt := (top 24)
abbrev s__law_tight : Stmt := (top 25)
abbrev s_law : Stmt := (top 26)
structure Ad where
  a_row_end : Addr
  d_row_end : FuncData
  a_group_end : Addr
  d_group_end : FuncData
  a_cut_groups : Addr
  d_cut_groups : FuncData
  a__law_box : Addr
  d__law_box : FuncData
  a__law_take : Addr
  d__law_take : FuncData
  a__law_pick : Addr
  d__law_pick : FuncData
  a__law_is : Addr
  d__law_is : FuncData
  a__law_all : Addr
  d__law_all : FuncData
  a__law_error : Addr
  d__law_error : FuncData
  a__law_wind : Addr
  d__law_wind : FuncData
  a__law_raw : Addr
  d__law_raw : FuncData
  a__law_number : Addr
  d__law_number : FuncData
  a__law_text : Addr
  d__law_text : FuncData
  a__law_groups : Addr
  d__law_groups : FuncData
  a__law_tight : Addr
  d__law_tight : FuncData
  a_law : Addr
  d_law : FuncData
  ca__law_all : Addr
  ct__law_all : Addr
  ca_law : Addr
  ct_law : Addr
  x_InvalidText : Addr
  x_InvalidFloor : Addr
/-- which clause takes which class -/
def exm : String → String → Option Bool
  | "InvalidText", "InvalidText" => some true
  | "InvalidText", "InvalidFloor" => some false
  | "InvalidFloor", "InvalidText" => some false
  | "InvalidFloor", "InvalidFloor" => some true
  | _, _ => none
structure Kn (P : Program) (w : World) (K : PySem.W.Frag) (mg : Str → Option Value) (A : Ad) : Prop where
  b_len : mg "len" = none
  c_FIGURES : ∃ t, mg "FIGURES" = some (.str (strOf [48, 49, 50, 51, 52, 53, 54, 55, 56, 57]) t)
  c_LETTERS : ∃ t, mg "LETTERS" = some (.str (strOf [97, 98, 99, 100, 101, 102, 103, 104, 105, 106, 107, 108, 109, 110, 111, 112, 113, 114, 115, 116, 117, 118, 119, 120, 121, 122]) t)
  b_isinstance : mg "isinstance" = none
  b_str : mg "str" = none
  c_MOST_TEXT : ∃ t, mg "MOST_TEXT" = some (.int 60000 t)
  b_enumerate : mg "enumerate" = none
  c_MOST_GROUPS : ∃ t, mg "MOST_GROUPS" = some (.int 4000 t)
  b_tuple : mg "tuple" = none
  b_abs : mg "abs" = none
  b_int : mg "int" = none
  b_zip : mg "zip" = none
  b_bool : mg "bool" = none
  g_InvalidText_why : ∀ C, mg (Str.ofString "InvalidText") = some (.ref C) → Gets K C (Str.ofString "why")
  g_InvalidText_at : ∀ C, mg (Str.ofString "InvalidText") = some (.ref C) → Gets K C (Str.ofString "at")
  g_InvalidFloor_at : ∀ C, mg (Str.ofString "InvalidFloor") = some (.ref C) → Gets K C (Str.ofString "at")
  b_range : mg "range" = none
  c_READINGS : Gval K mg "READINGS" k_READINGS
  f_row_end : At K mg "row_end" s_row_end ["text", "at", "signs"] A.a_row_end A.d_row_end
  f_group_end : At K mg "group_end" s_group_end ["text", "at"] A.a_group_end A.d_group_end
  f_cut_groups : At K mg "cut_groups" s_cut_groups ["text"] A.a_cut_groups A.d_cut_groups
  f__law_box : At K mg "_law_box" s__law_box ["script"] A.a__law_box A.d__law_box
  f__law_take : At K mg "_law_take" s__law_take ["box", "many"] A.a__law_take A.d__law_take
  f__law_pick : At K mg "_law_pick" s__law_pick ["box", "some"] A.a__law_pick A.d__law_pick
  f__law_is : At K mg "_law_is" s__law_is ["told", "due"] A.a__law_is A.d__law_is
  f__law_all : AtC K mg "_law_all" s__law_all ["ask", "some", "due"] A.a__law_all A.d__law_all A.ca__law_all
  f__law_error : At K mg "_law_error" s__law_error ["call"] A.a__law_error A.d__law_error
  f__law_wind : At K mg "_law_wind" s__law_wind ["box", "most"] A.a__law_wind A.d__law_wind
  f__law_raw : At K mg "_law_raw" s__law_raw ["box", "most"] A.a__law_raw A.d__law_raw
  f__law_number : At K mg "_law_number" s__law_number ["number"] A.a__law_number A.d__law_number
  f__law_text : At K mg "_law_text" s__law_text ["raw"] A.a__law_text A.d__law_text
  f__law_groups : At K mg "_law_groups" s__law_groups ["text"] A.a__law_groups A.d__law_groups
  f__law_tight : At K mg "_law_tight" s__law_tight ["groups"] A.a__law_tight A.d__law_tight
  f_law : AtC K mg "law" s_law ["script"] A.a_law A.d_law A.ca_law
  x_InvalidText : XAt P w K mg "InvalidText" A.x_InvalidText ["at", "why"]
  x_InvalidFloor : XAt P w K mg "InvalidFloor" A.x_InvalidFloor ["at"]
  exm : ExmOk K mg exm
section
variable {P : Program} {w : World} {K : PySem.W.Frag} {mg : Str → Option Value} {base : Heap} {A : Ad} {T : List (Addr × Str)}
theorem sc_row_end : FnScope ["text", "at", "signs"] ["text", "at", "signs"] (defScope s_row_end) := ⟨rfl, rfl, rfl, by decide +kernel, rfl, by decide +kernel, by decide +kernel⟩
noncomputable def m_row_end : MS :=
    (sSeq (sWhile (tAnd (tCmp (mOp fLt (mVar 1) (mBlt fLen (aCons (mVar 0) aNil)))) (tCmp (mOp fIn (mOp idxD (mVar 0) (mVar 1)) (mVar 2)))) (sAug 1 fInc (mLit (.int 1))))
    (sRet (mVar 1)))
theorem ok_row_end (Y : Kn P w K mg A) : FnOk P w K mg base (L2.CX P w) (0 + 1) A.a_row_end A.d_row_end ["text", "at", "signs"] (spB ⟨K, mg⟩ T 3 fun ds st => bodyR ((m_row_end) (envE 3 (ds.map some)) st)) :=
  bwB Y.f_row_end.fn sc_row_end (m_row_end) fun cdv AA S1 s H E z hr => by
    have tk := takes_of (X := cxOf (L2.CX P w) P w K mg base ["text", "at", "signs"] "row_end" (defScope s_row_end) A.a_row_end cdv AA S1 s H E) rfl rfl rfl rfl
    have hp := passes_of (X := cxOf (L2.CX P w) P w K mg base ["text", "at", "signs"] "row_end" (defScope s_row_end) A.a_row_end cdv AA S1 s H E) rfl
    unfold m_row_end
    exact (by refine ss_cons (s_while hp (PW.pt (t_and (t_cmp o_lt (e_var 1) (e_blt (c_len rfl) Y.b_len (by rfl) (a_cons (e_var 0) a_nil))) (t_and1 (t_cmp (o_in rfl (u65 hr)) (e_idx rfl (e_var 0) (e_var 1)) (e_var 2))))) (ss_one (s_aug 1 i_inc e_int sc_row_end.nd))) ?_; exact (ss_one (s_ret (e_var 1))))
theorem sc_group_end : FnScope ["text", "at", "signs"] ["text", "at"] (defScope s_group_end) := ⟨rfl, rfl, rfl, by decide +kernel, rfl, by decide +kernel, by decide +kernel⟩
noncomputable def m_group_end (g_row_end : List D → Store → Res D) : MS :=
    (sSeq (sFor (iVal (mTup (aCons (mLit (.str [97, 98, 99, 100, 101, 102, 103, 104, 105, 106, 107, 108, 109, 110, 111, 112, 113, 114, 115, 116, 117, 118, 119, 120, 121, 122])) (aCons (mLit (.str [48, 49, 50, 51, 52, 53, 54, 55, 56, 57])) aNil)))) (gN 2) (sIf (tCmp (mOp fIn (mOp idxD (mVar 0) (mVar 1)) (mVar 2))) (sRet (mCall (fun ds st => if ds.length = 3 then g_row_end ds st else .no) (aCons (mVar 0) (aCons (mVar 1) (aCons (mVar 2) aNil))))) sNext))
    (sRet (mOp fAdd (mVar 1) (mLit (.int 1)))))
theorem ok_group_end {g_row_end : List D → Store → Res D} (Y : Kn P w K mg A) (G_row_end : FnOk P w K mg base (L2.CX P w) 1 A.a_row_end A.d_row_end ["text", "at", "signs"] (spB ⟨K, mg⟩ T 3 g_row_end)) : FnOk P w K mg base (L2.CX P w) (1 + 1) A.a_group_end A.d_group_end ["text", "at"] (spB ⟨K, mg⟩ T 2 fun ds st => bodyR ((m_group_end g_row_end) (envE 3 (ds.map some)) st)) :=
  bwB Y.f_group_end.fn sc_group_end (m_group_end g_row_end) fun cdv AA S1 s H E z hr => by
    have tk := takes_of (X := cxOf (L2.CX P w) P w K mg base ["text", "at", "signs"] "group_end" (defScope s_group_end) A.a_group_end cdv AA S1 s H E) rfl rfl rfl rfl
    have hp := passes_of (X := cxOf (L2.CX P w) P w K mg base ["text", "at", "signs"] "group_end" (defScope s_group_end) A.a_group_end cdv AA S1 s H E) rfl
    unfold m_group_end
    exact (by refine ss_cons (s_for hp rfl (i_val rfl (e_tup (a_cons (e_gstrx [97, 98, 99, 100, 101, 102, 103, 104, 105, 106, 107, 108, 109, 110, 111, 112, 113, 114, 115, 116, 117, 118, 119, 120, 121, 122] Y.c_LETTERS) (a_cons (e_gstrx [48, 49, 50, 51, 52, 53, 54, 55, 56, 57] Y.c_FIGURES) a_nil)))) (g_name 2 sc_group_end.nd) (ss_one (s_if (t_cmp (o_in rfl (u65 hr)) (e_idx rfl (e_var 0) (e_var 1)) (e_var 2)) (ss_one (s_ret (e_callM G_row_end (hr.mono (by omega)) Y.f_row_end.mg Y.f_row_end.kp Y.f_row_end.bd tk (a_cons (e_var 0) (a_cons (e_var 1) (a_cons (e_var 2) a_nil)))))) ss_nil))) ?_; exact (ss_one (s_ret (e_op (o_add rfl) (e_var 1) e_int))))
theorem sc_cut_groups : FnScope ["text", "at", "sign", "found", "end"] ["text"] (defScope s_cut_groups) := ⟨rfl, rfl, rfl, by decide +kernel, rfl, by decide +kernel, by decide +kernel⟩
noncomputable def m_cut_groups (g_group_end : List D → Store → Res D) : MS :=
    (sSeq (sIf (tOr (tNot (tVal (mBlt fIsi (aCons (mVar 0) (aCons (mLit (.ty "str")) aNil))))) (tCmp (mOp fGt (mBlt fLen (aCons (mVar 0) aNil)) (mLit (.int 60000))))) (sRaise "InvalidText" ["at", "why"] (aCons (mUn (fun x _ => negD x) (mLit (.int 1))) (aCons (mLit (.int 0)) aNil))) sNext)
    (sSeq (sFor (iEnum (aCons (mVar 0) aNil)) (gT [(gN 1), (gN 2)]) (sIf (tAnd (tCmp (mOp fNotIn (mVar 2) (mLit (.str [97, 98, 99, 100, 101, 102, 103, 104, 105, 106, 107, 108, 109, 110, 111, 112, 113, 114, 115, 116, 117, 118, 119, 120, 121, 122])))) (tAnd (tCmp (mOp fNotIn (mVar 2) (mLit (.str [48, 49, 50, 51, 52, 53, 54, 55, 56, 57])))) (tCmp (mOp fNotIn (mVar 2) (mLit (.str [45, 32, 10])))))) (sRaise "InvalidText" ["at", "why"] (aCons (mVar 1) (aCons (mLit (.int 1)) aNil))) sNext))
    (sSeq (sPar 3 1 (aCons (mNew aNil) (aCons (mLit (.int 0)) aNil)))
    (sSeq (sWhile (tCmp (mOp fLt (mVar 1) (mBlt fLen (aCons (mVar 0) aNil)))) (sSeq (sAsg (mIf (tCmp (mOp fIn (mOp idxD (mVar 0) (mVar 1)) (mLit (.str [32, 10])))) (mOp fAdd (mVar 1) (mLit (.int 1))) (mCall (fun ds st => if ds.length = 2 then g_group_end ds st else .no) (aCons (mVar 0) (aCons (mVar 1) aNil)))) (gN 4))
    (sSeq (sIf (tCmp (mOp fNotIn (mOp idxD (mVar 0) (mVar 1)) (mLit (.str [32, 10])))) (sDrop (mApp (mVar 3) (mSli (mVar 0) (oSome (mVar 1)) (oSome (mVar 4))))) sNext)
    (sAsg (mVar 4) (gN 1)))))
    (sSeq (sIf (tCmp (mOp fGt (mBlt fLen (aCons (mVar 3) aNil)) (mLit (.int 4000)))) (sRaise "InvalidText" ["at", "why"] (aCons (mUn (fun x _ => negD x) (mLit (.int 1))) (aCons (mLit (.int 2)) aNil))) sNext)
    (sRet (mBlt fTup (aCons (mVar 3) aNil))))))))
theorem ok_cut_groups {g_group_end : List D → Store → Res D} (Y : Kn P w K mg A) (G_group_end : FnOk P w K mg base (L2.CX P w) 2 A.a_group_end A.d_group_end ["text", "at"] (spB ⟨K, mg⟩ T 2 g_group_end)) : FnOk P w K mg base (L2.CX P w) (2 + 1) A.a_cut_groups A.d_cut_groups ["text"] (spB ⟨K, mg⟩ T 1 fun ds st => bodyR ((m_cut_groups g_group_end) (envE 5 (ds.map some)) st)) :=
  bwB Y.f_cut_groups.fn sc_cut_groups (m_cut_groups g_group_end) fun cdv AA S1 s H E z hr => by
    have tk := takes_of (X := cxOf (L2.CX P w) P w K mg base ["text", "at", "sign", "found", "end"] "cut_groups" (defScope s_cut_groups) A.a_cut_groups cdv AA S1 s H E) rfl rfl rfl rfl
    have hp := passes_of (X := cxOf (L2.CX P w) P w K mg base ["text", "at", "sign", "found", "end"] "cut_groups" (defScope s_cut_groups) A.a_cut_groups cdv AA S1 s H E) rfl
    unfold m_cut_groups
    exact (by refine ss_cons (s_if (PW.pt (t_or (t_not (t_val rfl (e_blt (c_isi rfl) Y.b_isinstance (by rfl) (a_cons (e_var 0) (a_cons (e_ty "str" Y.b_str rfl) a_nil))))) (t_or1 (t_cmp o_gt (e_blt (c_len rfl) Y.b_len (by rfl) (a_cons (e_var 0) a_nil)) (e_gintx 60000 Y.c_MOST_TEXT))))) (ss_one (s_raise "InvalidText" (as := ["at", "why"]) rfl tk rfl Y.x_InvalidText.mkx Y.x_InvalidText.kp Y.x_InvalidText.bs Y.x_InvalidText.ty hr Y.x_InvalidText.mg (a_cons (e_neg e_int) (a_cons e_int a_nil)))) ss_nil) ?_; refine ss_cons (s_for hp rfl (i_enum rfl Y.b_enumerate (a_cons (e_var 0) a_nil)) (g_tup rfl rfl (gs_cons (g_name 1 sc_cut_groups.nd) (gs_cons (g_name 2 sc_cut_groups.nd) gs_nil))) (ss_one (s_if (PW.pt (t_and (t_cmp (o_notin rfl (u65 hr)) (e_var 2) (e_gstrx [97, 98, 99, 100, 101, 102, 103, 104, 105, 106, 107, 108, 109, 110, 111, 112, 113, 114, 115, 116, 117, 118, 119, 120, 121, 122] Y.c_LETTERS)) (t_and (t_cmp (o_notin rfl (u65 hr)) (e_var 2) (e_gstrx [48, 49, 50, 51, 52, 53, 54, 55, 56, 57] Y.c_FIGURES)) (t_and1 (t_cmp (o_notin rfl (u65 hr)) (e_var 2) (e_str [45, 32, 10])))))) (ss_one (s_raise "InvalidText" (as := ["at", "why"]) rfl tk rfl Y.x_InvalidText.mkx Y.x_InvalidText.kp Y.x_InvalidText.bs Y.x_InvalidText.ty hr Y.x_InvalidText.mg (a_cons (e_var 1) (a_cons e_int a_nil)))) ss_nil))) ?_; refine ss_cons (s_par 3 1 rfl (a_cons (e_new a_nil) (a_cons e_int a_nil)) sc_cut_groups.nd) ?_; refine ss_cons (s_while hp (t_cmp o_lt (e_var 1) (e_blt (c_len rfl) Y.b_len (by rfl) (a_cons (e_var 0) a_nil))) (by refine ss_cons (s_set 4 (e_if (t_cmp (o_in rfl (u65 hr)) (e_idx rfl (e_var 0) (e_var 1)) (e_str [32, 10])) (e_op (o_add rfl) (e_var 1) e_int) (e_callM G_group_end (hr.mono (by omega)) Y.f_group_end.mg Y.f_group_end.kp Y.f_group_end.bd tk (a_cons (e_var 0) (a_cons (e_var 1) a_nil)))) sc_cut_groups.nd) ?_; refine ss_cons (s_if (t_cmp (o_notin rfl (u65 hr)) (e_idx rfl (e_var 0) (e_var 1)) (e_str [32, 10])) (ss_one (s_drop (e_app rfl (e_var 3) (e_sli rfl (e_var 0) (p_some (e_var 1)) (p_some (e_var 4)))))) ss_nil) ?_; exact (ss_one (s_set 1 (e_var 4) sc_cut_groups.nd)))) ?_; refine ss_cons (s_if (t_cmp o_gt (e_blt (c_len rfl) Y.b_len (by rfl) (a_cons (e_var 3) a_nil)) (e_gintx 4000 Y.c_MOST_GROUPS)) (ss_one (s_raise "InvalidText" (as := ["at", "why"]) rfl tk rfl Y.x_InvalidText.mkx Y.x_InvalidText.kp Y.x_InvalidText.bs Y.x_InvalidText.ty hr Y.x_InvalidText.mg (a_cons (e_neg e_int) (a_cons e_int a_nil)))) ss_nil) ?_; exact (ss_one (s_ret (e_bty (c_tup rfl) Y.b_tuple (by rfl) (a_cons (e_var 3) a_nil)))))
theorem sc__law_box : FnScope ["script", "rest", "state", "k", "cell", "size"] ["script"] (defScope s__law_box) := ⟨rfl, rfl, rfl, by decide +kernel, rfl, by decide +kernel, by decide +kernel⟩
noncomputable def m__law_box : MS :=
    (sSeq (sPar 1 2 (aCons (mNew aNil) (aCons (mLit (.int 53881)) aNil)))
    (sSeq (sFor (iEnum (aCons (mSli (mVar 0) oNone (oSome (mLit (.int 63)))) aNil)) (gT [(gN 3), (gN 4)]) (sSeq (sAsg (mOp fAdd (mOp fMul (mBlt fAbs (aCons (mVar 4) aNil)) (mLit (.int 2))) (mBlt fInt (aCons (mOp fLt (mVar 4) (mLit (.int 0))) aNil))) (gN 5))
    (sSeq (sIf (tCmp (mOp fGe (mBlt fAbs (aCons (mVar 4) aNil)) (mOp fPow (mLit (.int 10)) (mLit (.int 18))))) (sDrop (mApp (mVar 1) (mBlt fAbs (aCons (mVar 4) aNil)))) sNext)
    (sAsg (mOp fAdd (mOp fMod (mBlt fInt (aCons (mOp fAdd (mOp fAdd (mOp fMul (mVar 2) (mLit (.int 48271))) (mOp fMul (mOp fMod (mBlt fInt (aCons (mVar 5) aNil)) (mLit (.int 2147483629))) (mOp fAdd (mOp fMul (mLit (.int 2)) (mVar 3)) (mLit (.int 50021))))) (mLit (.int 17))) aNil)) (mLit (.int 2147483629))) (mLit (.int 1))) (gN 2)))))
    (sRet (mNew (aCons (mVar 1) (aCons (mVar 2) aNil))))))
theorem ok__law_box (Y : Kn P w K mg A) : FnOk P w K mg base (L2.CX P w) (0 + 1) A.a__law_box A.d__law_box ["script"] (spB ⟨K, mg⟩ T 1 fun ds st => bodyR ((m__law_box) (envE 6 (ds.map some)) st)) :=
  bwB Y.f__law_box.fn sc__law_box (m__law_box) fun cdv AA S1 s H E z hr => by
    have tk := takes_of (X := cxOf (L2.CX P w) P w K mg base ["script", "rest", "state", "k", "cell", "size"] "_law_box" (defScope s__law_box) A.a__law_box cdv AA S1 s H E) rfl rfl rfl rfl
    have hp := passes_of (X := cxOf (L2.CX P w) P w K mg base ["script", "rest", "state", "k", "cell", "size"] "_law_box" (defScope s__law_box) A.a__law_box cdv AA S1 s H E) rfl
    unfold m__law_box
    exact (by refine ss_cons (s_par 1 2 rfl (a_cons (e_new a_nil) (a_cons e_int a_nil)) sc__law_box.nd) ?_; refine ss_cons (s_for hp rfl (i_enum rfl Y.b_enumerate (a_cons (e_sli rfl (e_var 0) p_none (p_some e_int)) a_nil)) (g_tup rfl rfl (gs_cons (g_name 3 sc__law_box.nd) (gs_cons (g_name 4 sc__law_box.nd) gs_nil))) (by refine ss_cons (s_set 5 (e_op (o_add rfl) (e_op (o_mul rfl) (e_blt (c_abs) Y.b_abs (by rfl) (a_cons (e_var 4) a_nil)) e_int) (e_bty (c_int) Y.b_int (by rfl) (a_cons (e_cmp o_lt (e_var 4) e_int) a_nil))) sc__law_box.nd) ?_; refine ss_cons (s_if (t_cmp o_ge (e_blt (c_abs) Y.b_abs (by rfl) (a_cons (e_var 4) a_nil)) (e_op o_pow e_int e_int)) (ss_one (s_drop (e_app rfl (e_var 1) (e_blt (c_abs) Y.b_abs (by rfl) (a_cons (e_var 4) a_nil))))) ss_nil) ?_; exact (ss_one (s_set 2 (e_op (o_add rfl) (e_op o_mod (e_bty (c_int) Y.b_int (by rfl) (a_cons (e_op (o_add rfl) (e_op (o_add rfl) (e_op (o_mul rfl) (e_var 2) e_int) (e_op (o_mul rfl) (e_op o_mod (e_bty (c_int) Y.b_int (by rfl) (a_cons (e_var 5) a_nil)) e_int) (e_op (o_add rfl) (e_op (o_mul rfl) e_int (e_var 3)) e_int))) e_int) a_nil)) e_int) e_int) sc__law_box.nd)))) ?_; exact (ss_one (s_ret (e_new (a_cons (e_var 1) (a_cons (e_var 2) a_nil))))))
theorem sc__law_take : FnScope ["box", "many", "cell"] ["box", "many"] (defScope s__law_take) := ⟨rfl, rfl, rfl, by decide +kernel, rfl, by decide +kernel, by decide +kernel⟩
noncomputable def m__law_take : MS :=
    (sSeq (sIf (tCmp (mOp fNe (mOp idxD (mVar 0) (mLit (.int 0))) (mLst aNil))) (sSeq (sAsg (mOp idxD (mOp idxD (mVar 0) (mLit (.int 0))) (mLit (.int 0))) (gN 2))
    (sSeq (sPut (mVar 0) (mLit (.int 0)) (mOp fAdd (mIf (tCmp (mOp fGe (mVar 2) (mVar 1))) (mLst (aCons (mOp fDiv (mVar 2) (mVar 1)) aNil)) (mLst aNil)) (mSli (mOp idxD (mVar 0) (mLit (.int 0))) (oSome (mLit (.int 1))) oNone)))
    (sRet (mOp fMod (mBlt fInt (aCons (mVar 2) aNil)) (mVar 1))))) sNext)
    (sSeq (sPut (mVar 0) (mLit (.int 1)) (mOp fMod (mBlt fInt (aCons (mOp fMul (mOp idxD (mVar 0) (mLit (.int 1))) (mLit (.int 48271))) aNil)) (mLit (.int 2147483647))))
    (sRet (mOp fMod (mBlt fInt (aCons (mOp fDiv (mOp fAdd (mOp fMul (mOp idxD (mVar 0) (mLit (.int 1))) (mLit (.int 69621))) (mLit (.int 7))) (mLit (.int 1013))) aNil)) (mVar 1)))))
theorem ok__law_take (Y : Kn P w K mg A) : FnOk P w K mg base (L2.CX P w) (0 + 1) A.a__law_take A.d__law_take ["box", "many"] (spB ⟨K, mg⟩ T 2 fun ds st => bodyR ((m__law_take) (envE 3 (ds.map some)) st)) :=
  bwB Y.f__law_take.fn sc__law_take (m__law_take) fun cdv AA S1 s H E z hr => by
    have tk := takes_of (X := cxOf (L2.CX P w) P w K mg base ["box", "many", "cell"] "_law_take" (defScope s__law_take) A.a__law_take cdv AA S1 s H E) rfl rfl rfl rfl
    have hp := passes_of (X := cxOf (L2.CX P w) P w K mg base ["box", "many", "cell"] "_law_take" (defScope s__law_take) A.a__law_take cdv AA S1 s H E) rfl
    unfold m__law_take
    exact (by refine ss_cons (s_if (t_cmp (o_ne rfl (u64 hr)) (e_idx rfl (e_var 0) e_int) (e_lst a_nil)) (by refine ss_cons (s_set 2 (e_idx rfl (e_idx rfl (e_var 0) e_int) e_int) sc__law_take.nd) ?_; refine ss_cons (s_put rfl (e_op (o_add rfl) (e_if (t_cmp o_ge (e_var 2) (e_var 1)) (e_lst (a_cons (e_op o_div (e_var 2) (e_var 1)) a_nil)) (e_lst a_nil)) (e_sli rfl (e_idx rfl (e_var 0) e_int) (p_some e_int) p_none)) (e_var 0) e_int) ?_; exact (ss_one (s_ret (e_op o_mod (e_bty (c_int) Y.b_int (by rfl) (a_cons (e_var 2) a_nil)) (e_var 1))))) ss_nil) ?_; refine ss_cons (s_put rfl (e_op o_mod (e_bty (c_int) Y.b_int (by rfl) (a_cons (e_op (o_mul rfl) (e_idx rfl (e_var 0) e_int) e_int) a_nil)) e_int) (e_var 0) e_int) ?_; exact (ss_one (s_ret (e_op o_mod (e_bty (c_int) Y.b_int (by rfl) (a_cons (e_op o_div (e_op (o_add rfl) (e_op (o_mul rfl) (e_idx rfl (e_var 0) e_int) e_int) e_int) e_int) a_nil)) (e_var 1)))))
theorem sc__law_pick : FnScope ["box", "some"] ["box", "some"] (defScope s__law_pick) := ⟨rfl, rfl, rfl, by decide +kernel, rfl, by decide +kernel, by decide +kernel⟩
noncomputable def m__law_pick (g__law_take : List D → Store → Res D) : MS :=
    (sRet (mOp idxD (mVar 1) (mCall (fun ds st => if ds.length = 2 then g__law_take ds st else .no) (aCons (mVar 0) (aCons (mBlt fLen (aCons (mVar 1) aNil)) aNil)))))
theorem ok__law_pick {g__law_take : List D → Store → Res D} (Y : Kn P w K mg A) (G__law_take : FnOk P w K mg base (L2.CX P w) 1 A.a__law_take A.d__law_take ["box", "many"] (spB ⟨K, mg⟩ T 2 g__law_take)) : FnOk P w K mg base (L2.CX P w) (1 + 1) A.a__law_pick A.d__law_pick ["box", "some"] (spB ⟨K, mg⟩ T 2 fun ds st => bodyR ((m__law_pick g__law_take) (envE 2 (ds.map some)) st)) :=
  bwB Y.f__law_pick.fn sc__law_pick (m__law_pick g__law_take) fun cdv AA S1 s H E z hr => by
    have tk := takes_of (X := cxOf (L2.CX P w) P w K mg base ["box", "some"] "_law_pick" (defScope s__law_pick) A.a__law_pick cdv AA S1 s H E) rfl rfl rfl rfl
    have hp := passes_of (X := cxOf (L2.CX P w) P w K mg base ["box", "some"] "_law_pick" (defScope s__law_pick) A.a__law_pick cdv AA S1 s H E) rfl
    unfold m__law_pick
    exact (ss_one (s_ret (e_idx rfl (e_var 1) (e_callM G__law_take (hr.mono (by omega)) Y.f__law_take.mg Y.f__law_take.kp Y.f__law_take.bd tk (a_cons (e_var 0) (a_cons (e_blt (c_len rfl) Y.b_len (by rfl) (a_cons (e_var 1) a_nil)) a_nil))))))
theorem sc__law_is : FnScope ["told", "due", "one", "other"] ["told", "due"] (defScope s__law_is) := ⟨rfl, rfl, rfl, by decide +kernel, rfl, by decide +kernel, by decide +kernel⟩
noncomputable def m__law_is (g__law_is : List D → Store → Res D) : MS :=
    (sSeq (sIf (tVal (mBlt fIsi (aCons (mVar 1) (aCons (mLit (.ty "tuple")) aNil)))) (sSeq (sIf (tOr (tNot (tVal (mBlt fIsi (aCons (mVar 0) (aCons (mLit (.ty "tuple")) aNil))))) (tCmp (mOp fNe (mBlt fLen (aCons (mVar 0) aNil)) (mBlt fLen (aCons (mVar 1) aNil))))) (sRet (mLit (.bl false))) sNext)
    (sRet (mOp fEq (mLc [2, 3] (iZip (aCons (mVar 0) (aCons (mVar 1) aNil))) (gT [(gN 2), (gN 3)]) (tNot (tVal (mCall (fun ds st => if ds.length = 2 then g__law_is ds st else .no) (aCons (mVar 2) (aCons (mVar 3) aNil))))) (mLit (.int 1))) (mLst aNil)))) sNext)
    (sSeq (sIf (tOr (tCmp (mOp fIsN (mVar 1) (mLit .non))) (tOr (tCmp (mOp fIsB (mVar 1) (mLit (.bl true)))) (tCmp (mOp fIsB (mVar 1) (mLit (.bl false)))))) (sRet (mIf (tCmp (mOp fIsN (mVar 1) (mLit .non))) (mOp fIsN (mVar 0) (mLit .non)) (mIf (tCmp (mOp fIsB (mVar 1) (mLit (.bl true)))) (mOp fIsB (mVar 0) (mLit (.bl true))) (mOp fIsB (mVar 0) (mLit (.bl false)))))) sNext)
    (sSeq (sIf (tVal (mBlt fIsi (aCons (mVar 1) (aCons (mLit (.ty "int")) aNil)))) (sRet (mAnd (mBlt fIsi (aCons (mVar 0) (aCons (mLit (.ty "int")) aNil))) (mAnd (mNot (mBlt fIsi (aCons (mVar 0) (aCons (mLit (.ty "bool")) aNil)))) (mOp fEq (mVar 0) (mVar 1))))) sNext)
    (sRet (mAnd (mBlt fIsi (aCons (mVar 1) (aCons (mLit (.ty "str")) aNil))) (mAnd (mBlt fIsi (aCons (mVar 0) (aCons (mLit (.ty "str")) aNil))) (mOp fEq (mVar 0) (mVar 1))))))))
theorem ok__law_is {j : Nat} {g__law_is : List D → Store → Res D} (Y : Kn P w K mg A) (G__law_is : FnOk P w K mg base (L2.CX P w) j A.a__law_is A.d__law_is ["told", "due"] (spB ⟨K, mg⟩ T 2 g__law_is)) : FnOk P w K mg base (L2.CX P w) (j + 1) A.a__law_is A.d__law_is ["told", "due"] (spB ⟨K, mg⟩ T 2 fun ds st => bodyR ((m__law_is g__law_is) (envE 4 (ds.map some)) st)) :=
  bwB Y.f__law_is.fn sc__law_is (m__law_is g__law_is) fun cdv AA S1 s H E z hr => by
    have tk := takes_of (X := cxOf (L2.CX P w) P w K mg base ["told", "due", "one", "other"] "_law_is" (defScope s__law_is) A.a__law_is cdv AA S1 s H E) rfl rfl rfl rfl
    have hp := passes_of (X := cxOf (L2.CX P w) P w K mg base ["told", "due", "one", "other"] "_law_is" (defScope s__law_is) A.a__law_is cdv AA S1 s H E) rfl
    unfold m__law_is
    exact (by refine ss_cons (s_if (t_val rfl (e_blt (c_isi rfl) Y.b_isinstance (by rfl) (a_cons (e_var 1) (a_cons (e_ty "tuple" Y.b_tuple rfl) a_nil)))) (by refine ss_cons (s_if (PW.pt (t_or (t_not (t_val rfl (e_blt (c_isi rfl) Y.b_isinstance (by rfl) (a_cons (e_var 0) (a_cons (e_ty "tuple" Y.b_tuple rfl) a_nil))))) (t_or1 (t_cmp (o_ne rfl (u64 hr)) (e_blt (c_len rfl) Y.b_len (by rfl) (a_cons (e_var 0) a_nil)) (e_blt (c_len rfl) Y.b_len (by rfl) (a_cons (e_var 1) a_nil)))))) (ss_one (s_ret e_bl)) ss_nil) ?_; exact (ss_one (s_ret (e_cmp (o_eq rfl (u64 hr)) (e_lc (own := [("one", 2), ("other", 3)]) rfl sc__law_is.nd (i_zip rfl Y.b_zip (a_cons (e_var 0) (a_cons (e_var 1) a_nil))) (blkOk_by (N := ["told", "due", "one", "other"]) (sc := defScope s__law_is) (by decide +kernel)) (fun _ _ _ _ _ => (g_tup rfl rfl (gs_cons (g_name 2 sc__law_is.nd) (gs_cons (g_name 3 sc__law_is.nd) gs_nil)))) (fun _ _ _ _ _ => (p_if (t_not (t_val rfl (e_callM G__law_is (hr.mono (by omega)) Y.f__law_is.mg Y.f__law_is.kp Y.f__law_is.bd L2.takes0 (a_cons (e_var 2) (a_cons (e_var 3) a_nil))))))) (fun _ _ _ _ _ => e_int)) (e_lst a_nil))))) ss_nil) ?_; refine ss_cons (s_if (PW.pt (t_or (t_cmp o_isN (e_var 1) e_non) (t_or (t_cmp o_isB (e_var 1) e_bl) (t_or1 (t_cmp o_isB (e_var 1) e_bl))))) (ss_one (s_ret (e_if (t_cmp o_isN (e_var 1) e_non) (e_cmp o_isN (e_var 0) e_non) (e_if (t_cmp o_isB (e_var 1) e_bl) (e_cmp o_isB (e_var 0) e_bl) (e_cmp o_isB (e_var 0) e_bl))))) ss_nil) ?_; refine ss_cons (s_if (t_val rfl (e_blt (c_isi rfl) Y.b_isinstance (by rfl) (a_cons (e_var 1) (a_cons (e_ty "int" Y.b_int rfl) a_nil)))) (ss_one (s_ret (e_and rfl (e_blt (c_isi rfl) Y.b_isinstance (by rfl) (a_cons (e_var 0) (a_cons (e_ty "int" Y.b_int rfl) a_nil))) (e_and rfl (e_not rfl (e_blt (c_isi rfl) Y.b_isinstance (by rfl) (a_cons (e_var 0) (a_cons (e_ty "bool" Y.b_bool rfl) a_nil)))) (e_one (e_cmp (o_eq rfl (u64 hr)) (e_var 0) (e_var 1))))))) ss_nil) ?_; exact (ss_one (s_ret (e_and rfl (e_blt (c_isi rfl) Y.b_isinstance (by rfl) (a_cons (e_var 1) (a_cons (e_ty "str" Y.b_str rfl) a_nil))) (e_and rfl (e_blt (c_isi rfl) Y.b_isinstance (by rfl) (a_cons (e_var 0) (a_cons (e_ty "str" Y.b_str rfl) a_nil))) (e_one (e_cmp (o_eq rfl (u64 hr)) (e_var 0) (e_var 1))))))))
theorem sc__law_error : FnScope ["call", "e"] ["call"] (defScope s__law_error) := ⟨rfl, rfl, rfl, by decide +kernel, rfl, by decide +kernel, by decide +kernel⟩
noncomputable def m__law_error (gc : Clo) : MS :=
    (sSeq (sTry exm (sDrop (mAct 0 gc aNil)) [("InvalidText", 1, fun er => (sRet (mTup (aCons (mLit (.str [116, 101, 120, 116])) (aCons (mFld ["InvalidText"] 1 "at" er) (aCons (mFld ["InvalidText"] 1 "why" er) aNil)))))), ("InvalidFloor", 1, fun er => (sRet (mTup (aCons (mLit (.str [102, 108, 111, 111, 114])) (aCons (mFld ["InvalidFloor"] 1 "at" er) aNil)))))])
    (sRet (mTup (aCons (mLit (.str [116, 111, 108, 100])) aNil))))
theorem ok__law_error (Y : Kn P w K mg A) : FnC P w K mg base ⟨K, mg⟩ T (0 + 1) A.a__law_error A.d__law_error ["call"] (fun gc ds st => bodyR ((m__law_error) gc (envE 2 (some (.clo 0) :: ds.map some)) st)) :=
  bwC Y.f__law_error.fn sc__law_error (m__law_error) fun cdv kc AA S1 s H E z a gc hr ho => by
    have tk := takes_of (X := cxOf (L2.CX P w) P w K mg base ["call", "e"] "_law_error" (defScope s__law_error) A.a__law_error cdv AA S1 s H E) rfl rfl rfl rfl
    have hp := passes_of (X := cxOf (L2.CX P w) P w K mg base ["call", "e"] "_law_error" (defScope s__law_error) A.a__law_error cdv AA S1 s H E) rfl
    unfold m__law_error
    exact (by refine ss_cons (s_try rfl rfl rfl rfl sc__law_error.nd tk Y.exm (fun W1 pn1 xe1 tk1 hp1 => (ss_one (s_drop (e_act0 0 rfl ho (hr.mono (by omega)) tk1)))) (HdsD.cons Y.x_InvalidText.mg ⟨rfl, by decide, Or.inl Y.x_InvalidText.mg⟩ rfl rfl (fun a oe cls dd pn er z0 hz hf eo => (ss_one (s_ret (e_tup (a_cons (e_str [116, 101, 120, 116]) (a_cons (e_fld ["InvalidText"] 1 "at" rfl rfl hz hf eo (List.forall_mem_singleton.mpr Y.g_InvalidText_at)) (a_cons (e_fld ["InvalidText"] 1 "why" rfl rfl hz hf eo (List.forall_mem_singleton.mpr Y.g_InvalidText_why)) a_nil))))))) (HdsD.cons Y.x_InvalidFloor.mg ⟨rfl, by decide, Or.inl Y.x_InvalidFloor.mg⟩ rfl rfl (fun a oe cls dd pn er z0 hz hf eo => (ss_one (s_ret (e_tup (a_cons (e_str [102, 108, 111, 111, 114]) (a_cons (e_fld ["InvalidFloor"] 1 "at" rfl rfl hz hf eo (List.forall_mem_singleton.mpr Y.g_InvalidFloor_at)) a_nil)))))) HdsD.nil))) ?_; exact (ss_one (s_ret (e_tup (a_cons (e_str [116, 111, 108, 100]) a_nil)))))
theorem sc__law_all : FnScope ["ask", "some", "due", "one"] ["ask", "some", "due"] (defScope s__law_all) := ⟨rfl, rfl, rfl, by decide +kernel, rfl, by decide +kernel, by decide +kernel⟩
noncomputable def m__law_all (g__law_is : List D → Store → Res D) (h__law_error : Clo → List D → Store → Res D) (gc : Clo) : MS :=
    (sSeq (sFor (iVal (mVar 1)) (gN 3) (sIf (tNot (tVal (mCall (fun ds st => if ds.length = 2 then g__law_is ds st else .no) (aCons (mLam (fun gc ds st => if ds.length + 1 = 1 then h__law_error gc ds st else .no) false 0 [true, false, false, true] (mAct 0 gc (aCons (mVar 3) aNil)) aNil) (aCons (mVar 2) aNil))))) (sRet (mLit (.bl false))) sNext))
    (sRet (mLit (.bl true))))
theorem ok__law_all {g__law_is : List D → Store → Res D} {h__law_error : Clo → List D → Store → Res D} (Y : Kn P w K mg A) (G__law_is : FnOk P w K mg base (L2.CX P w) 8 A.a__law_is A.d__law_is ["told", "due"] (spB ⟨K, mg⟩ T 2 g__law_is)) (H__law_error : FnC P w K mg base ⟨K, mg⟩ T 1 A.a__law_error A.d__law_error ["call"] h__law_error) (TB : TabB base mg A.ca__law_all A.ct__law_all) (hmT : (A.ct__law_all, lq "_law_all") ∈ T) (huT : ∀ p ∈ T, p.1 = A.ct__law_all → p.2 = lq "_law_all") : FnC P w K mg base ⟨K, mg⟩ T (8 + 1) A.a__law_all A.d__law_all ["ask", "some", "due"] (fun gc ds st => bodyR ((m__law_all g__law_is h__law_error) gc (envE 4 (some (.clo 0) :: ds.map some)) st)) :=
  bwCC Y.f__law_all.fn sc__law_all (m__law_all g__law_is h__law_error) fun kc AA S1 s H E z a gc hr ho => by
    have tk := takes_of (X := cxOf (L2.CX P w) P w K mg base ["ask", "some", "due", "one"] "_law_all" (defScope s__law_all) A.a__law_all (.ref A.ca__law_all) AA S1 s H E) rfl rfl rfl rfl
    have hp := passes_of (X := cxOf (L2.CX P w) P w K mg base ["ask", "some", "due", "one"] "_law_all" (defScope s__law_all) A.a__law_all (.ref A.ca__law_all) AA S1 s H E) rfl
    unfold m__law_all
    exact (by refine ss_cons (s_for hp rfl (i_val rfl (e_var 1)) (g_name 3 sc__law_all.nd) (ss_one (s_if (t_not (t_val rfl (e_callM G__law_is (hr.mono (by omega)) Y.f__law_is.mg Y.f__law_is.kp Y.f__law_is.bd tk (a_cons (e_lamC (kb := kc) H__law_error (hr.mono (by omega)) Y.f__law_error.mg Y.f__law_error.kp Y.f__law_error.bd tk TB rfl hmT huT rfl rfl rfl (lamP_by (as := []) (sc := defScope s__law_all) (by decide +kernel)) lamB0f rfl rfl rfl (show capt ["ask", "some", "due", "one"] _ = _ by decide +kernel) (fun A1 outer1 s1 H1 E1 f1 c1 z1 hr hrc => (e_act 0 rfl (hrc _ _ _ ho) (hr.mono (by omega)) (takes_of rfl rfl rfl rfl) (a_cons (e_var 3) a_nil))) a_nil) (a_cons (e_var 2) a_nil))))) (ss_one (s_ret e_bl)) ss_nil))) ?_; exact (ss_one (s_ret e_bl)))
theorem sc__law_wind : FnScope ["box", "most"] ["box", "most"] (defScope s__law_wind) := ⟨rfl, rfl, rfl, by decide +kernel, rfl, by decide +kernel, by decide +kernel⟩
noncomputable def m__law_wind (g__law_take : List D → Store → Res D) : MS :=
    (sRet (mTup (aCons (mOp fSub (mCall (fun ds st => if ds.length = 2 then g__law_take ds st else .no) (aCons (mVar 0) (aCons (mOp fAdd (mOp fMul (mLit (.int 2)) (mVar 1)) (mLit (.int 1))) aNil))) (mVar 1)) (aCons (mOp fSub (mCall (fun ds st => if ds.length = 2 then g__law_take ds st else .no) (aCons (mVar 0) (aCons (mOp fAdd (mOp fMul (mLit (.int 2)) (mVar 1)) (mLit (.int 1))) aNil))) (mVar 1)) aNil))))
theorem ok__law_wind {g__law_take : List D → Store → Res D} (Y : Kn P w K mg A) (G__law_take : FnOk P w K mg base (L2.CX P w) 1 A.a__law_take A.d__law_take ["box", "many"] (spB ⟨K, mg⟩ T 2 g__law_take)) : FnOk P w K mg base (L2.CX P w) (1 + 1) A.a__law_wind A.d__law_wind ["box", "most"] (spB ⟨K, mg⟩ T 2 fun ds st => bodyR ((m__law_wind g__law_take) (envE 2 (ds.map some)) st)) :=
  bwB Y.f__law_wind.fn sc__law_wind (m__law_wind g__law_take) fun cdv AA S1 s H E z hr => by
    have tk := takes_of (X := cxOf (L2.CX P w) P w K mg base ["box", "most"] "_law_wind" (defScope s__law_wind) A.a__law_wind cdv AA S1 s H E) rfl rfl rfl rfl
    have hp := passes_of (X := cxOf (L2.CX P w) P w K mg base ["box", "most"] "_law_wind" (defScope s__law_wind) A.a__law_wind cdv AA S1 s H E) rfl
    unfold m__law_wind
    exact (ss_one (s_ret (e_tup (a_cons (e_op o_sub (e_callM G__law_take (hr.mono (by omega)) Y.f__law_take.mg Y.f__law_take.kp Y.f__law_take.bd tk (a_cons (e_var 0) (a_cons (e_op (o_add rfl) (e_op (o_mul rfl) e_int (e_var 1)) e_int) a_nil))) (e_var 1)) (a_cons (e_op o_sub (e_callM G__law_take (hr.mono (by omega)) Y.f__law_take.mg Y.f__law_take.kp Y.f__law_take.bd tk (a_cons (e_var 0) (a_cons (e_op (o_add rfl) (e_op (o_mul rfl) e_int (e_var 1)) e_int) a_nil))) (e_var 1)) a_nil)))))
theorem sc__law_raw : FnScope ["box", "most", "wide", "high", "way", "winds", "square", "across", "up", "right", "rise"] ["box", "most"] (defScope s__law_raw) := ⟨rfl, rfl, rfl, by decide +kernel, rfl, by decide +kernel, by decide +kernel⟩
noncomputable def m__law_raw (g__law_take : List D → Store → Res D) (g__law_wind : List D → Store → Res D) (g__law_pick : List D → Store → Res D) : MS :=
    (sSeq (sAsg (mTup (aCons (mOp fAdd (mLit (.int 1)) (mCall (fun ds st => if ds.length = 2 then g__law_take ds st else .no) (aCons (mVar 0) (aCons (mVar 1) aNil)))) (aCons (mOp fAdd (mLit (.int 1)) (mCall (fun ds st => if ds.length = 2 then g__law_take ds st else .no) (aCons (mVar 0) (aCons (mVar 1) aNil)))) (aCons (mCall (fun ds st => if ds.length = 2 then g__law_take ds st else .no) (aCons (mVar 0) (aCons (mLit (.int 4)) aNil))) (aCons (mNew aNil) aNil))))) (gT [(gN 2), (gN 3), (gN 4), (gN 5)]))
    (sSeq (sFor (iRng1 (aCons (mOp fMul (mVar 2) (mVar 3)) aNil)) (gN 6) (sSeq (sPar 7 8 (aCons (mOp fAdd (mOp fSub (mOp fMul (mLit (.int 2)) (mOp fSub (mVar 6) (mOp fMul (mOp fDiv (mVar 6) (mVar 2)) (mVar 2)))) (mVar 2)) (mLit (.int 1))) (aCons (mOp fAdd (mOp fSub (mOp fMul (mLit (.int 2)) (mOp fDiv (mVar 6) (mVar 2))) (mVar 3)) (mLit (.int 1))) aNil)))
    (sIf (tCmp (mOp fEq (mVar 4) (mLit (.int 0)))) (sDrop (mApp (mVar 5) (mCall (fun ds st => if ds.length = 2 then g__law_wind ds st else .no) (aCons (mVar 0) (aCons (mCall (fun ds st => if ds.length = 2 then g__law_pick ds st else .no) (aCons (mVar 0) (aCons (mLst (aCons (mLit (.int 1)) (aCons (mLit (.int 3)) (aCons (mLit (.int 20)) aNil)))) aNil))) aNil))))) (sIf (tCmp (mOp fEq (mVar 4) (mLit (.int 1)))) (sDrop (mApp (mVar 5) (mTup (aCons (mOp fAdd (mLit (.int 1)) (mCall (fun ds st => if ds.length = 2 then g__law_take ds st else .no) (aCons (mVar 0) (aCons (mLit (.int 3)) aNil)))) (aCons (mOp fSub (mCall (fun ds st => if ds.length = 2 then g__law_take ds st else .no) (aCons (mVar 0) (aCons (mLit (.int 5)) aNil))) (mLit (.int 2))) aNil))))) (sSeq (sPar 9 10 (aCons (mIf (tCmp (mOp fGt (mVar 8) (mLit (.int 0)))) (mUn (fun x _ => negD x) (mLit (.int 1))) (mLit (.int 1))) (aCons (mIf (tCmp (mOp fGt (mVar 7) (mLit (.int 0)))) (mLit (.int 1)) (mUn (fun x _ => negD x) (mLit (.int 1)))) aNil)))
    (sDrop (mApp (mVar 5) (mTup (aCons (mOp fMul (mVar 9) (mOp fAdd (mLit (.int 1)) (mCall (fun ds st => if ds.length = 2 then g__law_take ds st else .no) (aCons (mVar 0) (aCons (mOp fSub (mVar 4) (mLit (.int 1))) aNil))))) (aCons (mOp fMul (mVar 10) (mOp fAdd (mLit (.int 1)) (mCall (fun ds st => if ds.length = 2 then g__law_take ds st else .no) (aCons (mVar 0) (aCons (mOp fSub (mVar 4) (mLit (.int 1))) aNil))))) aNil))))))))))
    (sRet (mTup (aCons (mVar 2) (aCons (mVar 3) (aCons (mBlt fTup (aCons (mVar 5) aNil)) aNil)))))))
theorem ok__law_raw {g__law_take : List D → Store → Res D} {g__law_wind : List D → Store → Res D} {g__law_pick : List D → Store → Res D} (Y : Kn P w K mg A) (G__law_take : FnOk P w K mg base (L2.CX P w) 1 A.a__law_take A.d__law_take ["box", "many"] (spB ⟨K, mg⟩ T 2 g__law_take)) (G__law_wind : FnOk P w K mg base (L2.CX P w) 2 A.a__law_wind A.d__law_wind ["box", "most"] (spB ⟨K, mg⟩ T 2 g__law_wind)) (G__law_pick : FnOk P w K mg base (L2.CX P w) 2 A.a__law_pick A.d__law_pick ["box", "some"] (spB ⟨K, mg⟩ T 2 g__law_pick)) : FnOk P w K mg base (L2.CX P w) (2 + 1) A.a__law_raw A.d__law_raw ["box", "most"] (spB ⟨K, mg⟩ T 2 fun ds st => bodyR ((m__law_raw g__law_take g__law_wind g__law_pick) (envE 11 (ds.map some)) st)) :=
  bwB Y.f__law_raw.fn sc__law_raw (m__law_raw g__law_take g__law_wind g__law_pick) fun cdv AA S1 s H E z hr => by
    have tk := takes_of (X := cxOf (L2.CX P w) P w K mg base ["box", "most", "wide", "high", "way", "winds", "square", "across", "up", "right", "rise"] "_law_raw" (defScope s__law_raw) A.a__law_raw cdv AA S1 s H E) rfl rfl rfl rfl
    have hp := passes_of (X := cxOf (L2.CX P w) P w K mg base ["box", "most", "wide", "high", "way", "winds", "square", "across", "up", "right", "rise"] "_law_raw" (defScope s__law_raw) A.a__law_raw cdv AA S1 s H E) rfl
    unfold m__law_raw
    exact (by refine ss_cons (s_asg (e_tup (a_cons (e_op (o_add rfl) e_int (e_callM G__law_take (hr.mono (by omega)) Y.f__law_take.mg Y.f__law_take.kp Y.f__law_take.bd tk (a_cons (e_var 0) (a_cons (e_var 1) a_nil)))) (a_cons (e_op (o_add rfl) e_int (e_callM G__law_take (hr.mono (by omega)) Y.f__law_take.mg Y.f__law_take.kp Y.f__law_take.bd tk (a_cons (e_var 0) (a_cons (e_var 1) a_nil)))) (a_cons (e_callM G__law_take (hr.mono (by omega)) Y.f__law_take.mg Y.f__law_take.kp Y.f__law_take.bd tk (a_cons (e_var 0) (a_cons e_int a_nil))) (a_cons (e_new a_nil) a_nil))))) (g_tup rfl rfl (gs_cons (g_name 2 sc__law_raw.nd) (gs_cons (g_name 3 sc__law_raw.nd) (gs_cons (g_name 4 sc__law_raw.nd) (gs_cons (g_name 5 sc__law_raw.nd) gs_nil)))))) ?_; refine ss_cons (s_for hp rfl (i_rng1 Y.b_range (a_cons (e_op (o_mul rfl) (e_var 2) (e_var 3)) a_nil)) (g_name 6 sc__law_raw.nd) (by refine ss_cons (s_par 7 8 rfl (a_cons (e_op (o_add rfl) (e_op o_sub (e_op (o_mul rfl) e_int (e_op o_sub (e_var 6) (e_op (o_mul rfl) (e_op o_div (e_var 6) (e_var 2)) (e_var 2)))) (e_var 2)) e_int) (a_cons (e_op (o_add rfl) (e_op o_sub (e_op (o_mul rfl) e_int (e_op o_div (e_var 6) (e_var 2))) (e_var 3)) e_int) a_nil)) sc__law_raw.nd) ?_; exact (ss_one (s_if (t_cmp (o_eq rfl (u64 hr)) (e_var 4) e_int) (ss_one (s_drop (e_app rfl (e_var 5) (e_callM G__law_wind (hr.mono (by omega)) Y.f__law_wind.mg Y.f__law_wind.kp Y.f__law_wind.bd tk (a_cons (e_var 0) (a_cons (e_callM G__law_pick (hr.mono (by omega)) Y.f__law_pick.mg Y.f__law_pick.kp Y.f__law_pick.bd tk (a_cons (e_var 0) (a_cons (e_lst (a_cons e_int (a_cons e_int (a_cons e_int a_nil)))) a_nil))) a_nil)))))) (ss_one (s_if (t_cmp (o_eq rfl (u64 hr)) (e_var 4) e_int) (ss_one (s_drop (e_app rfl (e_var 5) (e_tup (a_cons (e_op (o_add rfl) e_int (e_callM G__law_take (hr.mono (by omega)) Y.f__law_take.mg Y.f__law_take.kp Y.f__law_take.bd tk (a_cons (e_var 0) (a_cons e_int a_nil)))) (a_cons (e_op o_sub (e_callM G__law_take (hr.mono (by omega)) Y.f__law_take.mg Y.f__law_take.kp Y.f__law_take.bd tk (a_cons (e_var 0) (a_cons e_int a_nil))) e_int) a_nil)))))) (by refine ss_cons (s_par 9 10 rfl (a_cons (e_if (t_cmp o_gt (e_var 8) e_int) (e_neg e_int) e_int) (a_cons (e_if (t_cmp o_gt (e_var 7) e_int) e_int (e_neg e_int)) a_nil)) sc__law_raw.nd) ?_; exact (ss_one (s_drop (e_app rfl (e_var 5) (e_tup (a_cons (e_op (o_mul rfl) (e_var 9) (e_op (o_add rfl) e_int (e_callM G__law_take (hr.mono (by omega)) Y.f__law_take.mg Y.f__law_take.kp Y.f__law_take.bd tk (a_cons (e_var 0) (a_cons (e_op o_sub (e_var 4) e_int) a_nil))))) (a_cons (e_op (o_mul rfl) (e_var 10) (e_op (o_add rfl) e_int (e_callM G__law_take (hr.mono (by omega)) Y.f__law_take.mg Y.f__law_take.kp Y.f__law_take.bd tk (a_cons (e_var 0) (a_cons (e_op o_sub (e_var 4) e_int) a_nil))))) a_nil))))))))))))) ?_; exact (ss_one (s_ret (e_tup (a_cons (e_var 2) (a_cons (e_var 3) (a_cons (e_bty (c_tup rfl) Y.b_tuple (by rfl) (a_cons (e_var 5) a_nil)) a_nil)))))))
theorem sc__law_number : FnScope ["number"] ["number"] (defScope s__law_number) := ⟨rfl, rfl, rfl, by decide +kernel, rfl, by decide +kernel, by decide +kernel⟩
noncomputable def m__law_number : MS :=
    (sRet (mOp fAdd (mIf (tCmp (mOp fLt (mVar 0) (mLit (.int 0)))) (mLit (.str [45, 32])) (mLit (.str []))) (mBlt fStr (aCons (mBlt fAbs (aCons (mVar 0) aNil)) aNil))))
theorem ok__law_number (Y : Kn P w K mg A) : FnOk P w K mg base (L2.CX P w) (0 + 1) A.a__law_number A.d__law_number ["number"] (spB ⟨K, mg⟩ T 1 fun ds st => bodyR ((m__law_number) (envE 1 (ds.map some)) st)) :=
  bwB Y.f__law_number.fn sc__law_number (m__law_number) fun cdv AA S1 s H E z hr => by
    have tk := takes_of (X := cxOf (L2.CX P w) P w K mg base ["number"] "_law_number" (defScope s__law_number) A.a__law_number cdv AA S1 s H E) rfl rfl rfl rfl
    have hp := passes_of (X := cxOf (L2.CX P w) P w K mg base ["number"] "_law_number" (defScope s__law_number) A.a__law_number cdv AA S1 s H E) rfl
    unfold m__law_number
    exact (ss_one (s_ret (e_op (o_add rfl) (e_if (t_cmp o_lt (e_var 0) e_int) (e_str [45, 32]) (e_str [])) (e_bty (c_str) Y.b_str (by rfl) (a_cons (e_blt (c_abs) Y.b_abs (by rfl) (a_cons (e_var 0) a_nil)) a_nil)))))
theorem sc__law_text : FnScope ["raw", "rows", "square", "right", "up", "row"] ["raw"] (defScope s__law_text) := ⟨rfl, rfl, rfl, by decide +kernel, rfl, by decide +kernel, by decide +kernel⟩
noncomputable def m__law_text (g__law_number : List D → Store → Res D) : MS :=
    (sSeq (sAsg (mNew (aCons (mOp fAdd (mOp fAdd (mOp fAdd (mLit (.str [102, 108, 111, 111, 114, 32])) (mBlt fStr (aCons (mOp idxD (mVar 0) (mLit (.int 0))) aNil))) (mLit (.str [32, 98, 121, 32]))) (mBlt fStr (aCons (mOp idxD (mVar 0) (mLit (.int 1))) aNil))) aNil)) (gN 1))
    (sSeq (sFor (iEnum (aCons (mOp idxD (mVar 0) (mLit (.int 2))) aNil)) (gT [(gN 2), (gT [(gN 3), (gN 4)])]) (sIf (tCmp (mOp fNe (mTup (aCons (mVar 3) (aCons (mVar 4) aNil))) (mTup (aCons (mLit (.int 0)) (aCons (mLit (.int 0)) aNil))))) (sDrop (mApp (mVar 1) (mOp fAdd (mOp fAdd (mOp fAdd (mOp fAdd (mOp fAdd (mOp fAdd (mOp fAdd (mLit (.str [97, 116, 32])) (mBlt fStr (aCons (mOp fSub (mVar 2) (mOp fMul (mOp fDiv (mVar 2) (mOp idxD (mVar 0) (mLit (.int 0)))) (mOp idxD (mVar 0) (mLit (.int 0))))) aNil))) (mLit (.str [32]))) (mBlt fStr (aCons (mOp fDiv (mVar 2) (mOp idxD (mVar 0) (mLit (.int 0)))) aNil))) (mLit (.str [32, 119, 105, 110, 100, 32]))) (mCall (fun ds st => if ds.length = 1 then g__law_number ds st else .no) (aCons (mVar 3) aNil))) (mLit (.str [32]))) (mCall (fun ds st => if ds.length = 1 then g__law_number ds st else .no) (aCons (mVar 4) aNil))))) sNext))
    (sRet (mStr1 fJoin (mLit (.str [])) (aCons (mLc [5] (iVal (mVar 1)) (gN 5) tYesM (mOp fAdd (mVar 5) (mLit (.str [10])))) aNil)))))
theorem ok__law_text {g__law_number : List D → Store → Res D} (Y : Kn P w K mg A) (G__law_number : FnOk P w K mg base (L2.CX P w) 1 A.a__law_number A.d__law_number ["number"] (spB ⟨K, mg⟩ T 1 g__law_number)) : FnOk P w K mg base (L2.CX P w) (1 + 1) A.a__law_text A.d__law_text ["raw"] (spB ⟨K, mg⟩ T 1 fun ds st => bodyR ((m__law_text g__law_number) (envE 6 (ds.map some)) st)) :=
  bwB Y.f__law_text.fn sc__law_text (m__law_text g__law_number) fun cdv AA S1 s H E z hr => by
    have tk := takes_of (X := cxOf (L2.CX P w) P w K mg base ["raw", "rows", "square", "right", "up", "row"] "_law_text" (defScope s__law_text) A.a__law_text cdv AA S1 s H E) rfl rfl rfl rfl
    have hp := passes_of (X := cxOf (L2.CX P w) P w K mg base ["raw", "rows", "square", "right", "up", "row"] "_law_text" (defScope s__law_text) A.a__law_text cdv AA S1 s H E) rfl
    unfold m__law_text
    exact (by refine ss_cons (s_set 1 (e_new (a_cons (e_op (o_add rfl) (e_op (o_add rfl) (e_op (o_add rfl) (e_str [102, 108, 111, 111, 114, 32]) (e_bty (c_str) Y.b_str (by rfl) (a_cons (e_idx rfl (e_var 0) e_int) a_nil))) (e_str [32, 98, 121, 32])) (e_bty (c_str) Y.b_str (by rfl) (a_cons (e_idx rfl (e_var 0) e_int) a_nil))) a_nil)) sc__law_text.nd) ?_; refine ss_cons (s_for hp rfl (i_enum rfl Y.b_enumerate (a_cons (e_idx rfl (e_var 0) e_int) a_nil)) (g_tup rfl rfl (gs_cons (g_name 2 sc__law_text.nd) (gs_cons (g_tup rfl rfl (gs_cons (g_name 3 sc__law_text.nd) (gs_cons (g_name 4 sc__law_text.nd) gs_nil))) gs_nil))) (ss_one (s_if (t_cmp (o_ne rfl (u64 hr)) (e_tup (a_cons (e_var 3) (a_cons (e_var 4) a_nil))) (e_tup (a_cons e_int (a_cons e_int a_nil)))) (ss_one (s_drop (e_app rfl (e_var 1) (e_op (o_add rfl) (e_op (o_add rfl) (e_op (o_add rfl) (e_op (o_add rfl) (e_op (o_add rfl) (e_op (o_add rfl) (e_op (o_add rfl) (e_str [97, 116, 32]) (e_bty (c_str) Y.b_str (by rfl) (a_cons (e_op o_sub (e_var 2) (e_op (o_mul rfl) (e_op o_div (e_var 2) (e_idx rfl (e_var 0) e_int)) (e_idx rfl (e_var 0) e_int))) a_nil))) (e_str [32])) (e_bty (c_str) Y.b_str (by rfl) (a_cons (e_op o_div (e_var 2) (e_idx rfl (e_var 0) e_int)) a_nil))) (e_str [32, 119, 105, 110, 100, 32])) (e_callM G__law_number (hr.mono (by omega)) Y.f__law_number.mg Y.f__law_number.kp Y.f__law_number.bd tk (a_cons (e_var 3) a_nil))) (e_str [32])) (e_callM G__law_number (hr.mono (by omega)) Y.f__law_number.mg Y.f__law_number.kp Y.f__law_number.bd tk (a_cons (e_var 4) a_nil)))))) ss_nil))) ?_; exact (ss_one (s_ret (e_join rfl (e_str []) (a_cons (e_lc (own := [("row", 5)]) rfl sc__law_text.nd (i_val rfl (e_var 1)) (blkOk_by (N := ["raw", "rows", "square", "right", "up", "row"]) (sc := defScope s__law_text) (by decide +kernel)) (fun _ _ _ _ _ => (g_name 5 sc__law_text.nd)) (fun _ _ _ _ _ => p_yes) (fun _ _ _ _ _ => (e_op (o_add rfl) (e_var 5) (e_str [10])))) a_nil)))))
theorem sc__law_groups : FnScope ["text", "told", "at", "group"] ["text"] (defScope s__law_groups) := ⟨rfl, rfl, rfl, by decide +kernel, rfl, by decide +kernel, by decide +kernel⟩
noncomputable def m__law_groups : MS :=
    (sSeq (sAsg (mRep 45 [32, 45, 32] (mRep 10 [32] (mVar 0))) (gN 1)) (sSeq (sFor (iRng3 (aCons (mOp fSub (mBlt fLen (aCons (mVar 1) aNil)) (mLit (.int 1))) (aCons (mLit (.int 0)) (aCons (mUn (fun x _ => negD x) (mLit (.int 1))) aNil)))) (gN 2) (sIf (tAnd (tCmp (mOp fNotIn (mOp idxD (mVar 1) (mVar 2)) (mLit (.str [45, 32])))) (tAnd (tCmp (mOp fNotIn (mOp idxD (mVar 1) (mOp fSub (mVar 2) (mLit (.int 1)))) (mLit (.str [45, 32])))) (tCmp (mOp fNe (mChain fLe fLe (mLit (.str [48])) (mOp idxD (mVar 1) (mVar 2)) (mLit (.str [57]))) (mChain fLe fLe (mLit (.str [48])) (mOp idxD (mVar 1) (mOp fSub (mVar 2) (mLit (.int 1)))) (mLit (.str [57]))))))) (sAsg (mOp fAdd (mOp fAdd (mSli (mVar 1) oNone (oSome (mVar 2))) (mLit (.str [32]))) (mSli (mVar 1) (oSome (mVar 2)) oNone)) (gN 1)) sNext))
    (sRet (mBlt fTup (aCons (mLc [3] (iVal (mStr1 fSplit (mVar 1) (aCons (mLit (.str [32])) aNil))) (gN 3) (tCmp (mOp fNe (mVar 3) (mLit (.str [])))) (mVar 3)) aNil)))))
theorem ok__law_groups (Y : Kn P w K mg A) : FnOk P w K mg base (L2.CX P w) (0 + 1) A.a__law_groups A.d__law_groups ["text"] (spB ⟨K, mg⟩ T 1 fun ds st => bodyR ((m__law_groups) (envE 4 (ds.map some)) st)) :=
  bwT Y.f__law_groups.fn sc__law_groups (m__law_groups) (by decide +kernel) (by decide) fun cdv AA S1 s H E z hr => by
    have tk := takes_of (X := cxOf (L2.CX P w) P w K mg base ["text", "told", "at", "group"] "_law_groups" (defScope s__law_groups) A.a__law_groups cdv AA S1 s H E) rfl rfl rfl rfl
    have hp := passes_of (X := cxOf (L2.CX P w) P w K mg base ["text", "told", "at", "group"] "_law_groups" (defScope s__law_groups) A.a__law_groups cdv AA S1 s H E) rfl
    unfold m__law_groups
    exact (sst_cons (s_setT 1 (e_rep 45 [32, 45, 32] (e_rep 10 [32] (pdt (e_var 0)))) sc__law_groups.nd) (sst (by refine ss_cons (s_for hp rfl (i_rng3 Y.b_range (a_cons (e_op o_sub (e_blt (c_len rfl) Y.b_len (by rfl) (a_cons (e_var 1) a_nil)) e_int) (a_cons e_int (a_cons (e_neg e_int) a_nil)))) (g_name 2 sc__law_groups.nd) (ss_one (s_if (PW.pt (t_and (t_cmp (o_notin rfl (u65 hr)) (e_idx rfl (e_var 1) (e_var 2)) (e_str [45, 32])) (t_and (t_cmp (o_notin rfl (u65 hr)) (e_idx rfl (e_var 1) (e_op o_sub (e_var 2) e_int)) (e_str [45, 32])) (t_and1 (t_cmp (o_ne rfl (u64 hr)) (e_chain o_le o_le (e_str [48]) (e_idx rfl (e_var 1) (e_var 2)) (e_str [57])) (e_chain o_le o_le (e_str [48]) (e_idx rfl (e_var 1) (e_op o_sub (e_var 2) e_int)) (e_str [57]))))))) (ss_one (s_set 1 (e_op (o_add rfl) (e_op (o_add rfl) (e_sli rfl (e_var 1) p_none (p_some (e_var 2))) (e_str [32])) (e_sli rfl (e_var 1) (p_some (e_var 2)) p_none)) sc__law_groups.nd)) ss_nil))) ?_; exact (ss_one (s_ret (e_bty (c_tup rfl) Y.b_tuple (by rfl) (a_cons (e_lc (own := [("group", 3)]) rfl sc__law_groups.nd (i_val rfl (e_split (e_var 1) (a_cons (e_str [32]) a_nil))) (blkOk_by (N := ["text", "told", "at", "group"]) (sc := defScope s__law_groups) (by decide +kernel)) (fun _ _ _ _ _ => (g_name 3 sc__law_groups.nd)) (fun _ _ _ _ _ => (p_if (t_cmp (o_ne rfl (u64 hr)) (e_var 3) (e_str [])))) (fun _ _ _ _ _ => (e_var 3))) a_nil)))))))
theorem sc__law_tight : FnScope ["groups", "told", "group", "alike"] ["groups"] (defScope s__law_tight) := ⟨rfl, rfl, rfl, by decide +kernel, rfl, by decide +kernel, by decide +kernel⟩
noncomputable def m__law_tight : MS :=
    (sSeq (sAsg (mLit (.str [])) (gN 1))
    (sSeq (sFor (iVal (mVar 0)) (gN 2) (sSeq (sAsg (mAnd (mOp fNe (mVar 1) (mLit (.str []))) (mAnd (mOp fNotIn (mLit (.str [45])) (mTup (aCons (mOp idxD (mVar 1) (mUn (fun x _ => negD x) (mLit (.int 1)))) (aCons (mVar 2) aNil)))) (mOp fEq (mChain fLe fLe (mLit (.str [48])) (mOp idxD (mVar 1) (mUn (fun x _ => negD x) (mLit (.int 1)))) (mLit (.str [57]))) (mChain fLe fLe (mLit (.str [48])) (mOp idxD (mVar 2) (mLit (.int 0))) (mLit (.str [57])))))) (gN 3))
    (sAsg (mOp fAdd (mOp fAdd (mVar 1) (mIf (tVal (mVar 3)) (mLit (.str [32])) (mLit (.str [])))) (mVar 2)) (gN 1))))
    (sRet (mVar 1))))
theorem ok__law_tight (Y : Kn P w K mg A) : FnOk P w K mg base (L2.CX P w) (0 + 1) A.a__law_tight A.d__law_tight ["groups"] (spB ⟨K, mg⟩ T 1 fun ds st => bodyR ((m__law_tight) (envE 4 (ds.map some)) st)) :=
  bwB Y.f__law_tight.fn sc__law_tight (m__law_tight) fun cdv AA S1 s H E z hr => by
    have tk := takes_of (X := cxOf (L2.CX P w) P w K mg base ["groups", "told", "group", "alike"] "_law_tight" (defScope s__law_tight) A.a__law_tight cdv AA S1 s H E) rfl rfl rfl rfl
    have hp := passes_of (X := cxOf (L2.CX P w) P w K mg base ["groups", "told", "group", "alike"] "_law_tight" (defScope s__law_tight) A.a__law_tight cdv AA S1 s H E) rfl
    unfold m__law_tight
    exact (by refine ss_cons (s_set 1 (e_str []) sc__law_tight.nd) ?_; refine ss_cons (s_for hp rfl (i_val rfl (e_var 0)) (g_name 2 sc__law_tight.nd) (by refine ss_cons (s_set 3 (e_and rfl (e_cmp (o_ne rfl (u64 hr)) (e_var 1) (e_str [])) (e_and rfl (e_cmp (o_notin rfl (u65 hr)) (e_str [45]) (e_tup (a_cons (e_idx rfl (e_var 1) (e_neg e_int)) (a_cons (e_var 2) a_nil)))) (e_one (e_cmp (o_eq rfl (u64 hr)) (e_chain o_le o_le (e_str [48]) (e_idx rfl (e_var 1) (e_neg e_int)) (e_str [57])) (e_chain o_le o_le (e_str [48]) (e_idx rfl (e_var 2) e_int) (e_str [57])))))) sc__law_tight.nd) ?_; exact (ss_one (s_set 1 (e_op (o_add rfl) (e_op (o_add rfl) (e_var 1) (e_if (t_val rfl (e_var 3)) (e_str [32]) (e_str []))) (e_var 2)) sc__law_tight.nd)))) ?_; exact (ss_one (s_ret (e_var 1))))
end
end K01
set_option Elab.async false
set_option linter.all false
set_option autoImplicit false
set_option maxRecDepth 100000
set_option maxHeartbeats 4000000
namespace K01
open PySem PySem.Spec PyProof.Rows L2 Bw LamX
section
variable {P : Program} {w : World} {K : PySem.W.Frag} {mg : Str → Option Value} {base : Heap} {A : Ad} {T : List (Addr × Str)}
theorem sc_law : FnScope ["script", "box", "turn", "text", "groups", "loose", "group", "count", "some", "one", "odd", "at", "sign", "many", "due", "long"] ["script"] (defScope s_law) := ⟨rfl, rfl, rfl, by decide +kernel, rfl, by decide +kernel, by decide +kernel⟩
noncomputable def m_law (g__law_box : List D → Store → Res D) (g__law_text : List D → Store → Res D) (g__law_raw : List D → Store → Res D) (g__law_groups : List D → Store → Res D) (g__law_is : List D → Store → Res D) (g_cut_groups : List D → Store → Res D) (g__law_tight : List D → Store → Res D) (g__law_pick : List D → Store → Res D) (g__law_take : List D → Store → Res D) (h__law_error : Clo → List D → Store → Res D) (h__law_all : Clo → List D → Store → Res D) : MS :=
    (sSeq (sAsg (mCall (fun ds st => if ds.length = 1 then g__law_box ds st else .no) (aCons (mVar 0) aNil)) (gN 1))
    (sSeq (sFor (iRng1 (aCons (mLit (.int 5)) aNil)) (gN 2) (sSeq (sAsg (mCall (fun ds st => if ds.length = 1 then g__law_text ds st else .no) (aCons (mCall (fun ds st => if ds.length = 2 then g__law_raw ds st else .no) (aCons (mVar 1) (aCons (mLit (.int 4)) aNil))) aNil)) (gN 3))
    (sSeq (sAsg (mCall (fun ds st => if ds.length = 1 then g__law_groups ds st else .no) (aCons (mVar 3) aNil)) (gN 4))
    (sSeq (sIf (tNot (tVal (mCall (fun ds st => if ds.length = 2 then g__law_is ds st else .no) (aCons (mTup (aCons (mCall (fun ds st => if ds.length = 1 then g_cut_groups ds st else .no) (aCons (mVar 3) aNil)) (aCons (fun ρ st => ((mCall (fun ds st => if ds.length = 1 then g__law_tight ds st else .no) (aCons (mVar 4) aNil)) ρ st).bind fun y st => g_cut_groups [y] st) aNil))) (aCons (mTup (aCons (mVar 4) (aCons (mVar 4) aNil))) aNil))))) (sRet (mLit (.bl false))) sNext)
    (sSeq (sAsg (mStr1 fJoin (mLit (.str [])) (aCons (mLc [6] (iVal (mVar 4)) (gN 6) tYesM (mOp fAdd (mVar 6) (mCall (fun ds st => if ds.length = 2 then g__law_pick ds st else .no) (aCons (mVar 1) (aCons (mLst (aCons (mLit (.str [32])) (aCons (mLit (.str [10])) (aCons (mLit (.str [32, 32])) (aCons (mLit (.str [32, 10, 32])) aNil))))) aNil))))) aNil)) (gN 5))
    (sSeq (sIf (tNot (tVal (mCall (fun ds st => if ds.length = 2 then g__law_is ds st else .no) (aCons (mTup (aCons (mCall (fun ds st => if ds.length = 1 then g_cut_groups ds st else .no) (aCons (mVar 5) aNil)) (aCons (mCall (fun ds st => if ds.length = 1 then g_cut_groups ds st else .no) (aCons (mOp fAdd (mLit (.str [32])) (mVar 5)) aNil)) aNil))) (aCons (mTup (aCons (mVar 4) (aCons (mVar 4) aNil))) aNil))))) (sRet (mLit (.bl false))) sNext)
    (sFor (iRng1 (aCons (mLit (.int 6)) aNil)) (gN 7) (sSeq (sAsg (mStr1 fJoin (mLit (.str [])) (aCons (mLc [9] (iRng1 (aCons (mCall (fun ds st => if ds.length = 2 then g__law_take ds st else .no) (aCons (mVar 1) (aCons (mLit (.int 24)) aNil))) aNil)) (gN 9) tYesM (mCall (fun ds st => if ds.length = 2 then g__law_pick ds st else .no) (aCons (mVar 1) (aCons (mLst (aCons (mLit (.str [97, 116])) (aCons (mLit (.str [55])) (aCons (mLit (.str [45])) (aCons (mLit (.str [120])) (aCons (mLit (.str [48])) (aCons (mLit (.str [32])) (aCons (mLit (.str [10])) (aCons (mLit (.str [98, 121])) aNil))))))))) aNil)))) aNil)) (gN 8))
    (sSeq (sIf (tNot (tVal (mCall (fun ds st => if ds.length = 2 then g__law_is ds st else .no) (aCons (mCall (fun ds st => if ds.length = 1 then g_cut_groups ds st else .no) (aCons (mVar 8) aNil)) (aCons (mCall (fun ds st => if ds.length = 1 then g__law_groups ds st else .no) (aCons (mVar 8) aNil)) aNil))))) (sRet (mLit (.bl false))) sNext)
    (sSeq (sAsg (mCall (fun ds st => if ds.length = 2 then g__law_pick ds st else .no) (aCons (mVar 1) (aCons (mLst (aCons (mLit (.str [65])) (aCons (mLit (.str [46])) (aCons (mLit (.str [44])) (aCons (mLit (.str [40])) (aCons (mLit (.str [9])) (aCons (mLit (.str [95])) (aCons (mLit (.str [43])) (aCons (mLit (.str [47])) (aCons (mLit (.str [42])) aNil)))))))))) aNil))) (gN 10))
    (sSeq (sAsg (mCall (fun ds st => if ds.length = 2 then g__law_take ds st else .no) (aCons (mVar 1) (aCons (mOp fAdd (mBlt fLen (aCons (mVar 8) aNil)) (mLit (.int 1))) aNil))) (gN 11))
    (sIf (tNot (tVal (mCall (fun ds st => if ds.length = 2 then g__law_is ds st else .no) (aCons (mLam (fun gc ds st => if ds.length + 1 = 1 then h__law_error gc ds st else .no) false 0 [false, false, false, false, false, false, false, false, true, false, true, true, false, false, false, false] (mCall (fun ds st => if ds.length = 1 then g_cut_groups ds st else .no) (aCons (mOp fAdd (mOp fAdd (mSli (mVar 8) oNone (oSome (mVar 11))) (mVar 10)) (mSli (mVar 8) (oSome (mVar 11)) oNone)) aNil)) aNil) (aCons (mTup (aCons (mLit (.str [116, 101, 120, 116])) (aCons (mVar 11) (aCons (mLit (.int 1)) aNil)))) aNil))))) (sRet (mLit (.bl false))) sNext))))))))))))
    (sSeq (sFor (iVal (mLst (aCons (mLit (.str [45])) (aCons (mLit (.str [55, 32])) (aCons (mLit (.str [97, 98, 32])) aNil))))) (gN 12) (sFor (iVal (mLst (aCons (mTup (aCons (mLit (.int 4000)) (aCons (mTup (aCons (mLit (.str [116, 111, 108, 100])) aNil)) aNil))) (aCons (mTup (aCons (mLit (.int 4001)) (aCons (mTup (aCons (mLit (.str [116, 101, 120, 116])) (aCons (mUn (fun x _ => negD x) (mLit (.int 1))) (aCons (mLit (.int 2)) aNil)))) aNil))) aNil)))) (gT [(gN 13), (gN 14)]) (sIf (tNot (tVal (mCall (fun ds st => if ds.length = 2 then g__law_is ds st else .no) (aCons (mLam (fun gc ds st => if ds.length + 1 = 1 then h__law_error gc ds st else .no) false 0 [false, false, false, false, false, false, false, false, false, false, false, false, true, true, false, false] (mCall (fun ds st => if ds.length = 1 then g_cut_groups ds st else .no) (aCons (mOp fMul (mVar 12) (mVar 13)) aNil)) aNil) (aCons (mVar 14) aNil))))) (sRet (mLit (.bl false))) sNext)))
    (sSeq (sFor (iVal (mLst (aCons (mTup (aCons (mLit (.int 60000)) (aCons (mTup (aCons (mLit (.str [116, 111, 108, 100])) aNil)) aNil))) (aCons (mTup (aCons (mLit (.int 60001)) (aCons (mTup (aCons (mLit (.str [116, 101, 120, 116])) (aCons (mUn (fun x _ => negD x) (mLit (.int 1))) (aCons (mLit (.int 0)) aNil)))) aNil))) aNil)))) (gT [(gN 15), (gN 14)]) (sIf (tOr (tNot (tVal (mCall (fun ds st => if ds.length = 2 then g__law_is ds st else .no) (aCons (mLam (fun gc ds st => if ds.length + 1 = 1 then h__law_error gc ds st else .no) false 0 [false, false, false, false, false, false, false, false, false, false, false, false, false, false, false, true] (mCall (fun ds st => if ds.length = 1 then g_cut_groups ds st else .no) (aCons (mOp fMul (mLit (.str [122])) (mVar 15)) aNil)) aNil) (aCons (mVar 14) aNil))))) (tNot (tVal (mCall (fun ds st => if ds.length = 2 then g__law_is ds st else .no) (aCons (mLam (fun gc ds st => if ds.length + 1 = 1 then h__law_error gc ds st else .no) true 0 [false, false, false, false, false, false, false, false, false, false, false, false, false, false, false, true] (mCall (fun ds st => if ds.length = 1 then g_cut_groups ds st else .no) (aCons (mOp fAdd (mLit (.str [45])) (mOp fMul (mLit (.str [46])) (mOp fSub (mVar 16) (mLit (.int 1))))) aNil)) aNil) (aCons (mIf (tCmp (mOp fEq (mVar 14) (mTup (aCons (mLit (.str [116, 111, 108, 100])) aNil)))) (mTup (aCons (mLit (.str [116, 101, 120, 116])) (aCons (mLit (.int 1)) (aCons (mLit (.int 1)) aNil)))) (mVar 14)) aNil)))))) (sRet (mLit (.bl false))) sNext))
    (sSeq (sIf (tNot (tVal (mLam (fun gc ds st => if ds.length + 1 = 3 then h__law_all gc ds st else .no) false 1 [false, false, false, false, false, false, false, false, false, false, false, false, false, false, false, false] (mCall (fun ds st => if ds.length = 1 then g_cut_groups ds st else .no) (aCons (mVar 0) aNil)) (aCons (mLst (aCons (mLit .non) (aCons (mLit (.int 0)) (aCons (mLit (.bl true)) (aCons (mLst (aCons (mLit (.str [102, 108, 111, 111, 114])) aNil)) (aCons (mTup (aCons (mLit (.str [45])) aNil)) aNil)))))) (aCons (mTup (aCons (mLit (.str [116, 101, 120, 116])) (aCons (mUn (fun x _ => negD x) (mLit (.int 1))) (aCons (mLit (.int 0)) aNil)))) aNil))))) (sRet (mLit (.bl false))) sNext)
    (sRet (mCall (fun ds st => if ds.length = 2 then g__law_is ds st else .no) (aCons (mTup (aCons (mCall (fun ds st => if ds.length = 1 then g_cut_groups ds st else .no) (aCons (mLit (.str [])) aNil)) (aCons (mLit k_READINGS) aNil))) (aCons (mTup (aCons (mTup aNil) (aCons (mTup (aCons (mLit (.str [110, 111, 32, 116, 101, 120, 116])) (aCons (mLit (.str [110, 111, 32, 115, 117, 99, 104, 32, 115, 105, 103, 110])) (aCons (mLit (.str [116, 111, 111, 32, 109, 97, 110, 121, 32, 103, 114, 111, 117, 112, 115])) (aCons (mLit (.str [116, 111, 111, 32, 108, 111, 110, 103])) (aCons (mLit (.str [110, 111, 116, 32, 116, 104, 105, 115, 32, 104, 101, 114, 101])) aNil)))))) aNil))) aNil)))))))))
theorem ok_law {g__law_box : List D → Store → Res D} {g__law_text : List D → Store → Res D} {g__law_raw : List D → Store → Res D} {g__law_groups : List D → Store → Res D} {g__law_is : List D → Store → Res D} {g_cut_groups : List D → Store → Res D} {g__law_tight : List D → Store → Res D} {g__law_pick : List D → Store → Res D} {g__law_take : List D → Store → Res D} {h__law_error : Clo → List D → Store → Res D} {h__law_all : Clo → List D → Store → Res D} (Y : Kn P w K mg A) (G__law_box : FnOk P w K mg base (L2.CX P w) 1 A.a__law_box A.d__law_box ["script"] (spB ⟨K, mg⟩ T 1 g__law_box)) (G__law_text : FnOk P w K mg base (L2.CX P w) 2 A.a__law_text A.d__law_text ["raw"] (spB ⟨K, mg⟩ T 1 g__law_text)) (G__law_raw : FnOk P w K mg base (L2.CX P w) 3 A.a__law_raw A.d__law_raw ["box", "most"] (spB ⟨K, mg⟩ T 2 g__law_raw)) (G__law_groups : FnOk P w K mg base (L2.CX P w) 1 A.a__law_groups A.d__law_groups ["text"] (spB ⟨K, mg⟩ T 1 g__law_groups)) (G__law_is : FnOk P w K mg base (L2.CX P w) 8 A.a__law_is A.d__law_is ["told", "due"] (spB ⟨K, mg⟩ T 2 g__law_is)) (G_cut_groups : FnOk P w K mg base (L2.CX P w) 3 A.a_cut_groups A.d_cut_groups ["text"] (spB ⟨K, mg⟩ T 1 g_cut_groups)) (G__law_tight : FnOk P w K mg base (L2.CX P w) 1 A.a__law_tight A.d__law_tight ["groups"] (spB ⟨K, mg⟩ T 1 g__law_tight)) (G__law_pick : FnOk P w K mg base (L2.CX P w) 2 A.a__law_pick A.d__law_pick ["box", "some"] (spB ⟨K, mg⟩ T 2 g__law_pick)) (G__law_take : FnOk P w K mg base (L2.CX P w) 1 A.a__law_take A.d__law_take ["box", "many"] (spB ⟨K, mg⟩ T 2 g__law_take)) (H__law_error : FnC P w K mg base ⟨K, mg⟩ T 1 A.a__law_error A.d__law_error ["call"] h__law_error) (H__law_all : FnC P w K mg base ⟨K, mg⟩ T 9 A.a__law_all A.d__law_all ["ask", "some", "due"] h__law_all) (TB : TabB base mg A.ca_law A.ct_law) (hmT : (A.ct_law, lq "law") ∈ T) (huT : ∀ p ∈ T, p.1 = A.ct_law → p.2 = lq "law") : FnOk P w K mg base (L2.CX P w) (13 + 1) A.a_law A.d_law ["script"] (spB ⟨K, mg⟩ T 1 fun ds st => bodyR ((m_law g__law_box g__law_text g__law_raw g__law_groups g__law_is g_cut_groups g__law_tight g__law_pick g__law_take h__law_error h__law_all) (envE 16 (ds.map some)) st)) :=
  bwBC Y.f_law.fn sc_law (m_law g__law_box g__law_text g__law_raw g__law_groups g__law_is g_cut_groups g__law_tight g__law_pick g__law_take h__law_error h__law_all) fun AA S1 s H E z hr => by
    have tk := takes_of (X := cxOf (L2.CX P w) P w K mg base ["script", "box", "turn", "text", "groups", "loose", "group", "count", "some", "one", "odd", "at", "sign", "many", "due", "long"] "law" (defScope s_law) A.a_law (.ref A.ca_law) AA S1 s H E) rfl rfl rfl rfl
    have hp := passes_of (X := cxOf (L2.CX P w) P w K mg base ["script", "box", "turn", "text", "groups", "loose", "group", "count", "some", "one", "odd", "at", "sign", "many", "due", "long"] "law" (defScope s_law) A.a_law (.ref A.ca_law) AA S1 s H E) rfl
    unfold m_law
    exact (by refine ss_cons (s_set 1 (e_callM G__law_box (hr.mono (by omega)) Y.f__law_box.mg Y.f__law_box.kp Y.f__law_box.bd tk (a_cons (e_var 0) a_nil)) sc_law.nd) ?_; refine ss_cons (s_for hp rfl (i_rng1 Y.b_range (a_cons e_int a_nil)) (g_name 2 sc_law.nd) (by refine ss_cons (s_set 3 (e_callM G__law_text (hr.mono (by omega)) Y.f__law_text.mg Y.f__law_text.kp Y.f__law_text.bd tk (a_cons (e_callM G__law_raw (hr.mono (by omega)) Y.f__law_raw.mg Y.f__law_raw.kp Y.f__law_raw.bd tk (a_cons (e_var 1) (a_cons e_int a_nil))) a_nil)) sc_law.nd) ?_; refine ss_cons (s_set 4 (e_callM G__law_groups (hr.mono (by omega)) Y.f__law_groups.mg Y.f__law_groups.kp Y.f__law_groups.bd tk (a_cons (e_var 3) a_nil)) sc_law.nd) ?_; refine ss_cons (s_if (t_not (t_val rfl (e_callM G__law_is (hr.mono (by omega)) Y.f__law_is.mg Y.f__law_is.kp Y.f__law_is.bd tk (a_cons (e_tup (a_cons (e_callM G_cut_groups (hr.mono (by omega)) Y.f_cut_groups.mg Y.f_cut_groups.kp Y.f_cut_groups.bd tk (a_cons (e_var 3) a_nil)) (a_cons (e_callK G_cut_groups (hr.mono (by omega)) Y.f_cut_groups.mg Y.f_cut_groups.kp Y.f_cut_groups.kw tk (e_callM G__law_tight (hr.mono (by omega)) Y.f__law_tight.mg Y.f__law_tight.kp Y.f__law_tight.bd tk (a_cons (e_var 4) a_nil))) a_nil))) (a_cons (e_tup (a_cons (e_var 4) (a_cons (e_var 4) a_nil))) a_nil))))) (ss_one (s_ret e_bl)) ss_nil) ?_; refine ss_cons (s_set 5 (e_join rfl (e_str []) (a_cons (e_lc (own := [("group", 6)]) rfl sc_law.nd (i_val rfl (e_var 4)) (blkOk_by (N := ["script", "box", "turn", "text", "groups", "loose", "group", "count", "some", "one", "odd", "at", "sign", "many", "due", "long"]) (sc := defScope s_law) (by decide +kernel)) (fun _ _ _ _ _ => (g_name 6 sc_law.nd)) (fun _ _ _ _ _ => p_yes) (fun _ _ _ _ _ => (e_op (o_add rfl) (e_var 6) (e_callM G__law_pick (hr.mono (by omega)) Y.f__law_pick.mg Y.f__law_pick.kp Y.f__law_pick.bd L2.takes0 (a_cons (e_var 1) (a_cons (e_lst (a_cons (e_str [32]) (a_cons (e_str [10]) (a_cons (e_str [32, 32]) (a_cons (e_str [32, 10, 32]) a_nil))))) a_nil)))))) a_nil)) sc_law.nd) ?_; refine ss_cons (s_if (t_not (t_val rfl (e_callM G__law_is (hr.mono (by omega)) Y.f__law_is.mg Y.f__law_is.kp Y.f__law_is.bd tk (a_cons (e_tup (a_cons (e_callM G_cut_groups (hr.mono (by omega)) Y.f_cut_groups.mg Y.f_cut_groups.kp Y.f_cut_groups.bd tk (a_cons (e_var 5) a_nil)) (a_cons (e_callM G_cut_groups (hr.mono (by omega)) Y.f_cut_groups.mg Y.f_cut_groups.kp Y.f_cut_groups.bd tk (a_cons (e_op (o_add rfl) (e_str [32]) (e_var 5)) a_nil)) a_nil))) (a_cons (e_tup (a_cons (e_var 4) (a_cons (e_var 4) a_nil))) a_nil))))) (ss_one (s_ret e_bl)) ss_nil) ?_; exact (ss_one (s_for hp rfl (i_rng1 Y.b_range (a_cons e_int a_nil)) (g_name 7 sc_law.nd) (by refine ss_cons (s_set 8 (e_join rfl (e_str []) (a_cons (e_lc (own := [("one", 9)]) rfl sc_law.nd (i_rng1 Y.b_range (a_cons (e_callM G__law_take (hr.mono (by omega)) Y.f__law_take.mg Y.f__law_take.kp Y.f__law_take.bd tk (a_cons (e_var 1) (a_cons e_int a_nil))) a_nil)) (blkOk_by (N := ["script", "box", "turn", "text", "groups", "loose", "group", "count", "some", "one", "odd", "at", "sign", "many", "due", "long"]) (sc := defScope s_law) (by decide +kernel)) (fun _ _ _ _ _ => (g_name 9 sc_law.nd)) (fun _ _ _ _ _ => p_yes) (fun _ _ _ _ _ => (e_callM G__law_pick (hr.mono (by omega)) Y.f__law_pick.mg Y.f__law_pick.kp Y.f__law_pick.bd L2.takes0 (a_cons (e_var 1) (a_cons (e_lst (a_cons (e_str [97, 116]) (a_cons (e_str [55]) (a_cons (e_str [45]) (a_cons (e_str [120]) (a_cons (e_str [48]) (a_cons (e_str [32]) (a_cons (e_str [10]) (a_cons (e_str [98, 121]) a_nil))))))))) a_nil))))) a_nil)) sc_law.nd) ?_; refine ss_cons (s_if (t_not (t_val rfl (e_callM G__law_is (hr.mono (by omega)) Y.f__law_is.mg Y.f__law_is.kp Y.f__law_is.bd tk (a_cons (e_callM G_cut_groups (hr.mono (by omega)) Y.f_cut_groups.mg Y.f_cut_groups.kp Y.f_cut_groups.bd tk (a_cons (e_var 8) a_nil)) (a_cons (e_callM G__law_groups (hr.mono (by omega)) Y.f__law_groups.mg Y.f__law_groups.kp Y.f__law_groups.bd tk (a_cons (e_var 8) a_nil)) a_nil))))) (ss_one (s_ret e_bl)) ss_nil) ?_; refine ss_cons (s_set 10 (e_callM G__law_pick (hr.mono (by omega)) Y.f__law_pick.mg Y.f__law_pick.kp Y.f__law_pick.bd tk (a_cons (e_var 1) (a_cons (e_lst (a_cons (e_str [65]) (a_cons (e_str [46]) (a_cons (e_str [44]) (a_cons (e_str [40]) (a_cons (e_str [9]) (a_cons (e_str [95]) (a_cons (e_str [43]) (a_cons (e_str [47]) (a_cons (e_str [42]) a_nil)))))))))) a_nil))) sc_law.nd) ?_; refine ss_cons (s_set 11 (e_callM G__law_take (hr.mono (by omega)) Y.f__law_take.mg Y.f__law_take.kp Y.f__law_take.bd tk (a_cons (e_var 1) (a_cons (e_op (o_add rfl) (e_blt (c_len rfl) Y.b_len (by rfl) (a_cons (e_var 8) a_nil)) e_int) a_nil))) sc_law.nd) ?_; exact (ss_one (s_if (t_not (t_val rfl (e_callM G__law_is (hr.mono (by omega)) Y.f__law_is.mg Y.f__law_is.kp Y.f__law_is.bd tk (a_cons (e_lamC (kb := 3) H__law_error (hr.mono (by omega)) Y.f__law_error.mg Y.f__law_error.kp Y.f__law_error.bd tk TB rfl hmT huT rfl rfl rfl (lamP_by (as := []) (sc := defScope s_law) (by decide +kernel)) lamB0f rfl rfl rfl (show capt ["script", "box", "turn", "text", "groups", "loose", "group", "count", "some", "one", "odd", "at", "sign", "many", "due", "long"] _ = _ by decide +kernel) (fun A1 outer1 s1 H1 E1 f1 c1 z1 hr hrc => (e_callM G_cut_groups (hr.mono (by omega)) Y.f_cut_groups.mg Y.f_cut_groups.kp Y.f_cut_groups.bd (takes_of rfl rfl rfl rfl) (a_cons (e_op (o_add rfl) (e_op (o_add rfl) (e_sli rfl (e_var 8) p_none (p_some (e_var 11))) (e_var 10)) (e_sli rfl (e_var 8) (p_some (e_var 11)) p_none)) a_nil))) a_nil) (a_cons (e_tup (a_cons (e_str [116, 101, 120, 116]) (a_cons (e_var 11) (a_cons e_int a_nil)))) a_nil))))) (ss_one (s_ret e_bl)) ss_nil))))))) ?_; refine ss_cons (s_for hp rfl (i_val rfl (e_lst (a_cons (e_str [45]) (a_cons (e_str [55, 32]) (a_cons (e_str [97, 98, 32]) a_nil))))) (g_name 12 sc_law.nd) (ss_one (s_for hp rfl (i_val rfl (e_lst (a_cons (e_tup (a_cons e_int (a_cons (e_tup (a_cons (e_str [116, 111, 108, 100]) a_nil)) a_nil))) (a_cons (e_tup (a_cons e_int (a_cons (e_tup (a_cons (e_str [116, 101, 120, 116]) (a_cons (e_neg e_int) (a_cons e_int a_nil)))) a_nil))) a_nil)))) (g_tup rfl rfl (gs_cons (g_name 13 sc_law.nd) (gs_cons (g_name 14 sc_law.nd) gs_nil))) (ss_one (s_if (t_not (t_val rfl (e_callM G__law_is (hr.mono (by omega)) Y.f__law_is.mg Y.f__law_is.kp Y.f__law_is.bd tk (a_cons (e_lamC (kb := 3) H__law_error (hr.mono (by omega)) Y.f__law_error.mg Y.f__law_error.kp Y.f__law_error.bd tk TB rfl hmT huT rfl rfl rfl (lamP_by (as := []) (sc := defScope s_law) (by decide +kernel)) lamB0f rfl rfl rfl (show capt ["script", "box", "turn", "text", "groups", "loose", "group", "count", "some", "one", "odd", "at", "sign", "many", "due", "long"] _ = _ by decide +kernel) (fun A1 outer1 s1 H1 E1 f1 c1 z1 hr hrc => (e_callM G_cut_groups (hr.mono (by omega)) Y.f_cut_groups.mg Y.f_cut_groups.kp Y.f_cut_groups.bd (takes_of rfl rfl rfl rfl) (a_cons (e_op (o_mul rfl) (e_var 12) (e_var 13)) a_nil))) a_nil) (a_cons (e_var 14) a_nil))))) (ss_one (s_ret e_bl)) ss_nil))))) ?_; refine ss_cons (s_for hp rfl (i_val rfl (e_lst (a_cons (e_tup (a_cons e_int (a_cons (e_tup (a_cons (e_str [116, 111, 108, 100]) a_nil)) a_nil))) (a_cons (e_tup (a_cons e_int (a_cons (e_tup (a_cons (e_str [116, 101, 120, 116]) (a_cons (e_neg e_int) (a_cons e_int a_nil)))) a_nil))) a_nil)))) (g_tup rfl rfl (gs_cons (g_name 15 sc_law.nd) (gs_cons (g_name 14 sc_law.nd) gs_nil))) (ss_one (s_if (PW.pt (t_or (t_not (t_val rfl (e_callM G__law_is (hr.mono (by omega)) Y.f__law_is.mg Y.f__law_is.kp Y.f__law_is.bd tk (a_cons (e_lamC (kb := 3) H__law_error (hr.mono (by omega)) Y.f__law_error.mg Y.f__law_error.kp Y.f__law_error.bd tk TB rfl hmT huT rfl rfl rfl (lamP_by (as := []) (sc := defScope s_law) (by decide +kernel)) lamB0f rfl rfl rfl (show capt ["script", "box", "turn", "text", "groups", "loose", "group", "count", "some", "one", "odd", "at", "sign", "many", "due", "long"] _ = _ by decide +kernel) (fun A1 outer1 s1 H1 E1 f1 c1 z1 hr hrc => (e_callM G_cut_groups (hr.mono (by omega)) Y.f_cut_groups.mg Y.f_cut_groups.kp Y.f_cut_groups.bd (takes_of rfl rfl rfl rfl) (a_cons (e_op (o_mul rfl) (e_str [122]) (e_var 15)) a_nil))) a_nil) (a_cons (e_var 14) a_nil))))) (t_or1 (t_not (t_val rfl (e_callM G__law_is (hr.mono (by omega)) Y.f__law_is.mg Y.f__law_is.kp Y.f__law_is.bd tk (a_cons (e_lamC (kb := 3) H__law_error (hr.mono (by omega)) Y.f__law_error.mg Y.f__law_error.kp Y.f__law_error.bd tk TB rfl hmT huT rfl rfl rfl (lamP_by (as := ["more"]) (sc := defScope s_law) (by decide +kernel)) lamB0t ⟨_, _, rfl⟩ rfl rfl (show capt ["script", "box", "turn", "text", "groups", "loose", "group", "count", "some", "one", "odd", "at", "sign", "many", "due", "long"] _ = _ by decide +kernel) (fun A1 outer1 s1 H1 E1 f1 c1 z1 hr hrc => (e_callM G_cut_groups (hr.mono (by omega)) Y.f_cut_groups.mg Y.f_cut_groups.kp Y.f_cut_groups.bd (takes_of rfl rfl rfl rfl) (a_cons (e_op (o_add rfl) (e_str [45]) (e_op (o_mul rfl) (e_str [46]) (e_op o_sub (e_var 16) e_int))) a_nil))) a_nil) (a_cons (e_if (t_cmp (o_eq rfl (u64 hr)) (e_var 14) (e_tup (a_cons (e_str [116, 111, 108, 100]) a_nil))) (e_tup (a_cons (e_str [116, 101, 120, 116]) (a_cons e_int (a_cons e_int a_nil)))) (e_var 14)) a_nil)))))))) (ss_one (s_ret e_bl)) ss_nil))) ?_; refine ss_cons (s_if (t_not (t_val rfl (e_lamC (kb := 3) H__law_all (hr.mono (by omega)) Y.f__law_all.mg Y.f__law_all.kp Y.f__law_all.bd tk TB rfl hmT huT rfl rfl rfl (lamP_by (as := ["value"]) (sc := defScope s_law) (by decide +kernel)) lamB1f rfl rfl rfl (show capt ["script", "box", "turn", "text", "groups", "loose", "group", "count", "some", "one", "odd", "at", "sign", "many", "due", "long"] _ = _ by decide +kernel) (fun A1 outer1 s1 H1 E1 f1 c1 z1 hr hrc => (e_callM G_cut_groups (hr.mono (by omega)) Y.f_cut_groups.mg Y.f_cut_groups.kp Y.f_cut_groups.bd (takes_of rfl rfl rfl rfl) (a_cons (e_var 0) a_nil))) (a_cons (e_lst (a_cons e_non (a_cons e_int (a_cons e_bl (a_cons (e_lst (a_cons (e_str [102, 108, 111, 111, 114]) a_nil)) (a_cons (e_tup (a_cons (e_str [45]) a_nil)) a_nil)))))) (a_cons (e_tup (a_cons (e_str [116, 101, 120, 116]) (a_cons (e_neg e_int) (a_cons e_int a_nil)))) a_nil))))) (ss_one (s_ret e_bl)) ss_nil) ?_; exact (ss_one (s_ret (e_callM G__law_is (hr.mono (by omega)) Y.f__law_is.mg Y.f__law_is.kp Y.f__law_is.bd tk (a_cons (e_tup (a_cons (e_callM G_cut_groups (hr.mono (by omega)) Y.f_cut_groups.mg Y.f_cut_groups.kp Y.f_cut_groups.bd tk (a_cons (e_str []) a_nil)) (a_cons (e_gval k_READINGS Y.c_READINGS) a_nil))) (a_cons (e_tup (a_cons (e_tup a_nil) (a_cons (e_tup (a_cons (e_str [110, 111, 32, 116, 101, 120, 116]) (a_cons (e_str [110, 111, 32, 115, 117, 99, 104, 32, 115, 105, 103, 110]) (a_cons (e_str [116, 111, 111, 32, 109, 97, 110, 121, 32, 103, 114, 111, 117, 112, 115]) (a_cons (e_str [116, 111, 111, 32, 108, 111, 110, 103]) (a_cons (e_str [110, 111, 116, 32, 116, 104, 105, 115, 32, 104, 101, 114, 101]) a_nil)))))) a_nil))) a_nil))))))

end
end K01
set_option Elab.async false
set_option linter.all false
set_option autoImplicit false
set_option maxRecDepth 100000
set_option maxHeartbeats 4000000
namespace K01
open PySem PySem.Spec PyProof.Rows L2 Bw LamX
noncomputable def r_row_end : List D → Store → Res D := fun ds st => bodyR (m_row_end (envE 3 (ds.map some)) st)
noncomputable def r_group_end : List D → Store → Res D := fun ds st => bodyR (m_group_end r_row_end (envE 3 (ds.map some)) st)
noncomputable def r_cut_groups : List D → Store → Res D := fun ds st => bodyR (m_cut_groups r_group_end (envE 5 (ds.map some)) st)
noncomputable def p_cut_groups : List D → Store → Res D := forget r_cut_groups
noncomputable def r__law_box : List D → Store → Res D := fun ds st => bodyR (m__law_box (envE 6 (ds.map some)) st)
noncomputable def r__law_take : List D → Store → Res D := fun ds st => bodyR (m__law_take (envE 3 (ds.map some)) st)
noncomputable def r__law_pick : List D → Store → Res D := fun ds st => bodyR (m__law_pick r__law_take (envE 2 (ds.map some)) st)
noncomputable def r__law_is : Nat → List D → Store → Res D
  | 0 => fun _ _ => .no
  | k + 1 => fun ds st => bodyR (m__law_is (r__law_is k) (envE 4 (ds.map some)) st)
noncomputable def r__law_error : Clo → List D → Store → Res D := fun gc ds st => bodyR (m__law_error gc (envE 2 (some (.clo 0) :: ds.map some)) st)
noncomputable def r__law_all : Clo → List D → Store → Res D := fun gc ds st => bodyR (m__law_all (r__law_is 8) r__law_error gc (envE 4 (some (.clo 0) :: ds.map some)) st)
noncomputable def r__law_wind : List D → Store → Res D := fun ds st => bodyR (m__law_wind r__law_take (envE 2 (ds.map some)) st)
noncomputable def r__law_raw : List D → Store → Res D := fun ds st => bodyR (m__law_raw r__law_take r__law_wind r__law_pick (envE 11 (ds.map some)) st)
noncomputable def p__law_raw : List D → Store → Res D := forget r__law_raw
noncomputable def r__law_number : List D → Store → Res D := fun ds st => bodyR (m__law_number (envE 1 (ds.map some)) st)
noncomputable def r__law_text : List D → Store → Res D := fun ds st => bodyR (m__law_text r__law_number (envE 6 (ds.map some)) st)
noncomputable def p__law_text : List D → Store → Res D := forget r__law_text
noncomputable def r__law_groups : List D → Store → Res D := fun ds st => bodyR (m__law_groups (envE 4 (ds.map some)) st)
noncomputable def r__law_tight : List D → Store → Res D := fun ds st => bodyR (m__law_tight (envE 4 (ds.map some)) st)
noncomputable def r_law : List D → Store → Res D := fun ds st => bodyR (m_law r__law_box p__law_text p__law_raw r__law_groups (r__law_is 8) p_cut_groups r__law_tight r__law_pick r__law_take r__law_error r__law_all (envE 16 (ds.map some)) st)
noncomputable abbrev gLaw := r_law
end K01
set_option Elab.async false
set_option linter.all false
set_option autoImplicit false
set_option maxRecDepth 100000
set_option maxHeartbeats 4000000
/-! Law k01, plain: what each def gives. -/
namespace K01
open Bw
theorem take1 {j st : Store} (B : BxT j st) {many : Int} (hm : 0 < many) (hm2 : many.natAbs < 2 ^ 60) : ∃ v st', r__law_take [.ref 1, .int many] st = .ok (.int v) st' ∧ BxT j st' ∧ 0 ≤ v ∧ v < many :=
  take_ok (a := 48271) (b := 2147483647) (c := 69621) (d := 7) (e := 1013) B hm hm2 (by decide) (by decide) (by decide) (by decide) (by decide)
theorem box1 (ns : List Int) : ∃ st, r__law_box [.scr ns] [] = .ok (.ref 1) st ∧ Bx st :=
  box_ok (s0 := 53881) (a := 48271) (b := 2147483629) (c := 50021) (d := 17) (by decide) (by decide) (by decide) ns
theorem is1 : ∀ k, r__law_is k = rIs k
  | 0 => rfl
  | k + 1 => by
    show (fun (ds : List D) (st : Store) => bodyR (m__law_is (r__law_is k) (envE 4 (ds.map some)) st)) = _
    rw [is1 k]
    rfl
theorem atD_nat {α : Type} {l : List α} {i : Nat} {x : α} (h : l[i]? = some x) : atD l (i : Int) = some x := by
  have hl : i < l.length := (List.getElem?_eq_some_iff.mp h).1
  unfold atD atN
  rw [if_pos (Int.natCast_nonneg i), if_pos (by omega)]
  simpa using h
theorem pick1 {j st : Store} (B : BxT j st) (ds : List D) (h0 : 0 < ds.length) (hl : ds.length < 1000) : ∃ (i : Nat) (d : D) (st' : Store), ds[i]? = some d ∧ r__law_pick [.ref 1, .lst ds] st = .ok d st' ∧ BxT j st' := by
  obtain ⟨v, st', h1, h2, h3, h4⟩ := take1 B (many := (ds.length : Int)) (by omega) (by omega)
  obtain ⟨n, rfl⟩ := Int.eq_ofNat_of_zero_le h3
  have hn : n < ds.length := by omega
  refine ⟨n, ds[n], st', List.getElem?_eq_getElem hn, ?_, h2⟩
  have ha : atD ds (n : Int) = some ds[n] := atD_nat (List.getElem?_eq_getElem hn)
  show bodyR (m__law_pick r__law_take (envE 2 ([D.ref 1, D.lst ds].map some)) st) = _
  have e0 : envE 2 ([D.ref 1, D.lst ds].map some) = [some (.ref 1), some (.lst ds)] := rfl
  rw [e0]
  simp [m__law_pick, x_var, fLen, lenD, h1, idxD, ha]
/-! ### row_end, group_end, cut_groups -/
theorem idx_str {t : List Nat} {i : Nat} {c : Nat} (st : Store) (hz : Sz t.length = true) (h : t[i]? = some c) : idxD (.str t) (.int (i : Int)) st = some (.str [c]) := by
  show (if Sz t.length then (atD t (i : Int)).map fun c => D.str [c] else none) = _
  rw [if_pos hz, atD_nat h]
  rfl
theorem row_loop {t sg : List Nat} (hz : Sz t.length = true) (st : Store) : ∀ (g p r : List Nat), t = p ++ g ++ r → (∀ x ∈ g, x ∈ sg) → (∀ x, r.head? = some x → x ∉ sg) →
    sWhile (tAnd (tCmp (mOp fLt (mVar 1) (mBlt fLen (aCons (mVar 0) aNil)))) (tCmp (mOp fIn (mOp idxD (mVar 0) (mVar 1)) (mVar 2)))) (sAug 1 fInc (mLit (.int 1))) [some (.str t), some (.int (p.length : Int)), some (.str sg)] st
      = .nx [some (.str t), some (.int ((p.length + g.length : Nat) : Int)), some (.str sg)] st
  | [], p, r, e, hg, hr => by
    refine while_end ?_
    cases r with
    | nil =>
      have : t.length = p.length := by rw [e]; simp
      rw [this] at hz
      simp [x_var, fLen, lenD, hz, this]
    | cons c r =>
      have hc : c ∉ sg := hr c rfl
      have hl : (p.length : Int) < t.length := by rw [e]; simp; omega
      have hi := idx_str (i := p.length) (c := c) st hz (by rw [e]; simp)
      simp [x_var, fLen, lenD, hz, hl, hi, inD, hc]
  | c :: g, p, r, e, hg, hr => by
    have hc : c ∈ sg := hg c List.mem_cons_self
    have hl : (p.length : Int) < t.length := by rw [e]; simp; omega
    have hi := idx_str (i := p.length) (c := c) st hz (by rw [e]; simp)
    have ih := row_loop hz st g (p ++ [c]) r (by rw [e]; simp) (fun x hx => hg x (List.mem_cons_of_mem _ hx)) hr
    rw [while_nx (st1 := st) (ρ' := [some (.str t), some (.int ((p ++ [c]).length : Int)), some (.str sg)]) (st' := st) (by simp [x_var, fLen, lenD, hz, hl, hi, inD, hc]) (by simp [fInc]), ih]
    simp
    omega
theorem row1 {t sg : List Nat} (hz : Sz t.length = true) (st : Store) (p g r : List Nat) (e : t = p ++ g ++ r) (hg : ∀ x ∈ g, x ∈ sg) (hr : ∀ x, r.head? = some x → x ∉ sg) : r_row_end [.str t, .int (p.length : Int), .str sg] st = .ok (.int ((p.length + g.length : Nat) : Int)) st := by
  show bodyR (m_row_end (envE 3 ([D.str t, D.int (p.length : Int), D.str sg].map some)) st) = _
  have e0 : envE 3 ([D.str t, D.int (p.length : Int), D.str sg].map some) = [some (.str t), some (.int (p.length : Int)), some (.str sg)] := rfl
  rw [e0, m_row_end, x_seq, row_loop hz st g p r e hg hr]
  simp [x_var]
/-! groups' ends -/
abbrev lets : List Nat := [97, 98, 99, 100, 101, 102, 103, 104, 105, 106, 107, 108, 109, 110, 111, 112, 113, 114, 115, 116, 117, 118, 119, 120, 121, 122]
abbrev figs : List Nat := [48, 49, 50, 51, 52, 53, 54, 55, 56, 57]
theorem lets_kd (c : Nat) : c ∈ lets ↔ kd c = 1 := by
  unfold kd
  by_cases h : 97 ≤ c ∧ c ≤ 122
  · rw [if_pos h]
    simp only [iff_true]
    have : ∃ n, n < 26 ∧ c = 97 + n := ⟨c - 97, by omega, by omega⟩
    obtain ⟨n, hn, rfl⟩ := this
    have q : ∀ n < 26, 97 + n ∈ lets := by decide
    exact q n hn
  · rw [if_neg h]
    refine ⟨fun hm => ?_, fun e => ?_⟩
    · have q : ∀ x ∈ lets, 97 ≤ x ∧ x ≤ 122 := by decide
      exact absurd (q c hm) h
    · split at e <;> omega
theorem figs_kd (c : Nat) : c ∈ figs ↔ kd c = 2 := by
  unfold kd
  by_cases h : 97 ≤ c ∧ c ≤ 122
  · rw [if_pos h]
    refine ⟨fun hm => ?_, fun e => by omega⟩
    have q : ∀ x ∈ figs, x ≤ 57 := by decide
    have := q c hm
    omega
  · rw [if_neg h]
    by_cases h2 : 48 ≤ c ∧ c ≤ 57
    · rw [if_pos h2]
      simp only [iff_true]
      have : ∃ n, n < 10 ∧ c = 48 + n := ⟨c - 48, by omega, by omega⟩
      obtain ⟨n, hn, rfl⟩ := this
      have q : ∀ n < 10, 48 + n ∈ figs := by decide
      exact q n hn
    · rw [if_neg h2]
      refine ⟨fun hm => ?_, fun e => by omega⟩
      have q : ∀ x ∈ figs, 48 ≤ x ∧ x ≤ 57 := by decide
      exact absurd (q c hm) h2
theorem group1 {t : List Nat} (hz : Sz t.length = true) (st : Store) (p g r : List Nat) (e : t = p ++ g ++ r) (hg : good g) (hr : ∀ k, g ≠ [45] → (∀ x ∈ g, kd x = k) → ∀ x, r.head? = some x → kd x ≠ k) : r_group_end [.str t, .int (p.length : Int)] st = .ok (.int ((p.length + g.length : Nat) : Int)) st := by
  show bodyR (m_group_end r_row_end (envE 3 ([D.str t, D.int (p.length : Int)].map some)) st) = _
  have e0 : envE 3 ([D.str t, D.int (p.length : Int)].map some) = [some (.str t), some (.int (p.length : Int)), none] := rfl
  have s2 : Sz 2 = true := by decide
  rw [e0]
  rcases hg with rfl | ⟨k, c, g', hk, rfl, hg⟩
  · have hi := idx_str (i := p.length) (c := 45) st hz (by rw [e]; simp)
    have n1 : (45 : Nat) ∉ lets := by decide
    have n2 : (45 : Nat) ∉ figs := by decide
    simp [m_group_end, x_var, s2, itemsD]
    rw [loop_nx trivial rfl (ρ'' := [some (.str t), some (.int (p.length : Int)), some (.str lets)]) (st' := st) (by simp [x_var, hi, inD])]
    rw [loop_nx trivial rfl (ρ'' := [some (.str t), some (.int (p.length : Int)), some (.str figs)]) (st' := st) (by simp [x_var, hi, inD])]
    rw [loop_nil trivial]
    simp [x_var]
  · have hi := idx_str (i := p.length) (c := c) st hz (by rw [e]; simp)
    have hc := hg c List.mem_cons_self
    have ne : c :: g' ≠ [45] := fun q => by
      have : c = 45 := by simpa using congrArg List.head? q
      rw [this] at hc
      exact hk (by rw [← hc]; decide)
    have hr' := hr k ne hg
    have kk : k = 1 ∨ k = 2 := by have := kd_le c; omega
    rcases kk with rfl | rfl
    · have m1 : c ∈ lets := (lets_kd c).mpr hc
      have q := row1 hz st p (c :: g') r e (sg := lets) (fun x hx => (lets_kd x).mpr (hg x hx)) (fun x hx h => hr' x hx ((lets_kd x).mp h))
      simp only [m_group_end, x_seq, x_for, x_iVal, x_tup, x_cons, x_lit, bind_ok, x_cons1, x_nil, x_cons2, List.length_cons, List.length_nil, s2, if_true, itemsD, x_ofS, sBind_ok]
      rw [loop_rt trivial rfl (e := .int ((p.length + (c :: g').length : Nat) : Int)) (st' := st) (by simp only [x_sif, x_tCmp, x_op]; simp [x_var, hi, inD, m1, q])]
      simp
    · have m1 : c ∉ lets := fun h => by have := (lets_kd c).mp h; omega
      have m2 : c ∈ figs := (figs_kd c).mpr hc
      have q := row1 hz st p (c :: g') r e (sg := figs) (fun x hx => (figs_kd x).mpr (hg x hx)) (fun x hx h => hr' x hx ((figs_kd x).mp h))
      simp only [m_group_end, x_seq, x_for, x_iVal, x_tup, x_cons, x_lit, bind_ok, x_cons1, x_nil, x_cons2, List.length_cons, List.length_nil, s2, if_true, itemsD, x_ofS, sBind_ok]
      rw [loop_nx trivial rfl (ρ'' := [some (.str t), some (.int (p.length : Int)), some (.str lets)]) (st' := st) (by simp [x_var, hi, inD, m1])]
      rw [loop_rt trivial rfl (e := .int ((p.length + (c :: g').length : Nat) : Int)) (st' := st) (by simp [x_var, hi, inD, m2, q])]
      simp
end K01
set_option Elab.async false
set_option linter.all false
set_option autoImplicit false
set_option maxRecDepth 100000
set_option maxHeartbeats 4000000
/-! Law k01, plain: cut_groups. -/
namespace K01
open Bw
abbrev chkB : MS := (sIf (tAnd (tCmp (mOp fNotIn (mVar 2) (mLit (.str lets)))) (tAnd (tCmp (mOp fNotIn (mVar 2) (mLit (.str figs)))) (tCmp (mOp fNotIn (mVar 2) (mLit (.str [45, 32, 10])))))) (sRaise "InvalidText" ["at", "why"] (aCons (mVar 1) (aCons (mLit (.int 1)) aNil))) sNext)
theorem okc_iff (c : Nat) : okc c = true ↔ c ∈ lets ∨ c ∈ figs ∨ c ∈ [45, 32, 10] := by
  rw [lets_kd, figs_kd]
  have := kd_le c
  simp [okc, gp]
  constructor
  · rintro (⟨h | h⟩ | h)
    · by_cases h1 : kd c = 1
      · exact .inl h1
      · exact .inr (.inl (by omega))
    · exact .inr (.inr (.inl h))
    · rcases h with h | h
      · exact .inr (.inr (.inr (.inl h)))
      · exact .inr (.inr (.inr (.inr h)))
  · rintro (h | h | h | h | h)
    · exact .inl (.inl (by omega))
    · exact .inl (.inl (by omega))
    · exact .inl (.inr h)
    · exact .inr (.inl h)
    · exact .inr (.inr h)
theorem chk_one {c : Nat} (h : okc c = true) (x0 x3 x4 : Option D) (k : Int) (st : Store) : chkB [x0, some (.int k), some (.str [c]), x3, x4] st = .nx [x0, some (.int k), some (.str [c]), x3, x4] st := by
  by_cases h1 : c ∈ lets
  · simp [chkB, x_var, inD, h1]
  · by_cases h2 : c ∈ figs
    · simp [chkB, x_var, inD, h1, h2]
    · have h3 : c ∈ [45, 32, 10] := ((okc_iff c).mp h).resolve_left h1 |>.resolve_left h2
      have h4 : c = 45 ∨ c = 32 ∨ c = 10 := by simpa using h3
      rcases h4 with rfl | rfl | rfl <;> simp [chkB, x_var, inD]
theorem chk_bad {c : Nat} (h : okc c = false) (x0 x3 x4 : Option D) (k : Int) (st : Store) : chkB [x0, some (.int k), some (.str [c]), x3, x4] st = .er ⟨"InvalidText", [("at", .int k), ("why", .int 1)]⟩ [x0, some (.int k), some (.str [c]), x3, x4] st := by
  have hn : ¬ (c ∈ lets ∨ c ∈ figs ∨ c ∈ [45, 32, 10]) := fun q => by rw [(okc_iff c).mpr q] at h; cases h
  have h1 : c ∉ lets := fun q => hn (.inl q)
  have h2 : c ∉ figs := fun q => hn (.inr (.inl q))
  have h3 : c ∉ [45, 32, 10] := fun q => hn (.inr (.inr q))
  have h4 : ¬ c = 45 ∧ ¬ c = 32 ∧ ¬ c = 10 := by simpa using h3
  simp only [chkB, x_sif, x_tAnd, x_tCmp, x_op, x_var]
  simp [inD, h1, h2, x_var, h4.1, h4.2.1, h4.2.2]
theorem chk_loop (x0 x3 x4 : Option D) (st : Store) : ∀ (t : List Nat) (k : Nat) (x1 x2 : Option D), (∀ c ∈ t, okc c = true) → ∃ x1' x2', loopF (fun _ => True) (gT [gN 1, gN 2]) chkB (numb k (t.map fun a => .str [a])) [x0, x1, x2, x3, x4] st = .nx [x0, x1', x2', x3, x4] st
  | [], k, x1, x2, _ => ⟨x1, x2, loop_nil trivial⟩
  | c :: t, k, x1, x2, h => by
    rw [List.map_cons, numb, loop_nx trivial rfl (chk_one (h c List.mem_cons_self) x0 x3 x4 k st)]
    exact chk_loop x0 x3 x4 st t (k + 1) _ _ fun x hx => h x (List.mem_cons_of_mem _ hx)
theorem chk_loop_bad (x0 x3 x4 : Option D) (st : Store) (c : Nat) (r : List Nat) (hc : okc c = false) : ∀ (t : List Nat) (k : Nat) (x1 x2 : Option D), (∀ c ∈ t, okc c = true) → ∃ ρ, loopF (fun _ => True) (gT [gN 1, gN 2]) chkB (numb k ((t ++ c :: r).map fun a => .str [a])) [x0, x1, x2, x3, x4] st = .er ⟨"InvalidText", [("at", .int ((k + t.length : Nat) : Int)), ("why", .int 1)]⟩ ρ st
  | [], k, x1, x2, _ => by
    rw [List.nil_append, List.map_cons, numb, loop_er trivial rfl (chk_bad hc x0 x3 x4 k st)]
    exact ⟨_, rfl⟩
  | d :: t, k, x1, x2, h => by
    rw [List.cons_append, List.map_cons, numb, loop_nx trivial rfl (chk_one (h d List.mem_cons_self) x0 x3 x4 k st)]
    obtain ⟨ρ, e⟩ := chk_loop_bad x0 x3 x4 st c r hc t (k + 1) _ _ fun x hx => h x (List.mem_cons_of_mem _ hx)
    refine ⟨ρ, e.trans ?_⟩
    have : k + 1 + t.length = k + (d :: t).length := by simp; omega
    rw [this]
abbrev cutT : MT := (tCmp (mOp fLt (mVar 1) (mBlt fLen (aCons (mVar 0) aNil))))
noncomputable abbrev cutB : MS := (sSeq (sAsg (mIf (tCmp (mOp fIn (mOp idxD (mVar 0) (mVar 1)) (mLit (.str [32, 10])))) (mOp fAdd (mVar 1) (mLit (.int 1))) (mCall (fun ds st => if ds.length = 2 then r_group_end ds st else .no) (aCons (mVar 0) (aCons (mVar 1) aNil)))) (gN 4))
    (sSeq (sIf (tCmp (mOp fNotIn (mOp idxD (mVar 0) (mVar 1)) (mLit (.str [32, 10])))) (sDrop (mApp (mVar 3) (mSli (mVar 0) (oSome (mVar 1)) (oSome (mVar 4))))) sNext)
    (sAsg (mVar 4) (gN 1))))
theorem len_str {t : List Nat} (hz : Sz t.length = true) (st : Store) : fLen [.str t] st = some (.int (t.length : Int)) := by simp [fLen, lenD, hz]
theorem cut_mid (p g r : List Nat) : cut (p ++ g ++ r) (some (p.length : Int)) (some ((p.length + g.length : Nat) : Int)) = g := by
  unfold cut clip
  have h1 : ¬ ((p.length : Int) < 0) := by omega
  have h2 : ¬ (((p.length + g.length : Nat) : Int) < 0) := by omega
  simp only [h1, h2, if_false, Int.toNat_natCast]
  have e1 : min p.length (p ++ g ++ r).length = p.length := by simp
  have e2 : min (p.length + g.length) (p ++ g ++ r).length = p.length + g.length := by simp
  rw [e1, e2, List.append_assoc, List.drop_left]
  simp
/-- one group more -/
theorem cut_turn {t : List Nat} (hz : Sz t.length = true) (st : Store) (n : Nat) (hn : n = st.length) (acc : List D) (hacc : Sz (acc.length + 1) = true) (p g r : List Nat) (x2 x4 : Option D) (e : t = p ++ g ++ r) (hg : good g) (hr : ∀ k, g ≠ [45] → (∀ x ∈ g, kd x = k) → ∀ x, r.head? = some x → kd x ≠ k) :
    sWhile cutT cutB [some (.str t), some (.int (p.length : Int)), x2, some (.ref n), x4] (st ++ [.lst acc]) = sWhile cutT cutB [some (.str t), some (.int ((p ++ g).length : Int)), x2, some (.ref n), some (.int ((p ++ g).length : Int))] (st ++ [.lst (acc ++ [.str g])]) := by
  have q := group1 hz (st ++ [.lst acc]) p g r e hg hr
  obtain ⟨c, g', eg, hc⟩ : ∃ c g', g = c :: g' ∧ c ∉ [32, 10] := by
    rcases hg with rfl | ⟨k, c, g', hk, rfl, hg⟩
    · exact ⟨45, [], rfl, by decide⟩
    · have h0 : kd c ≠ 0 := by rw [hg c List.mem_cons_self]; exact hk
      obtain ⟨n1, n2, n3⟩ := kd_ne h0
      exact ⟨c, g', rfl, by simp [n1, n3]⟩
  have hl : (p.length : Int) < t.length := by rw [e, eg]; simp; omega
  have hi := idx_str (i := p.length) (c := c) (st ++ [.lst acc]) hz (by rw [e, eg]; simp)
  have hd : decide (c ∈ [32, 10]) = false := decide_eq_false hc
  have gl : (p ++ g).length = p.length + g.length := List.length_append
  have cm : cut t (some (p.length : Int)) (some ((p.length + g.length : Nat) : Int)) = g := by rw [e]; exact cut_mid p g r
  have g1 : (st ++ [MO.lst acc])[n]? = some (.lst acc) := by rw [hn]; simp
  have g2 : (st ++ [MO.lst acc]).set n (.lst (acc ++ [.str g])) = st ++ [.lst (acc ++ [.str g])] := by rw [hn]; simp
  rw [gl]
  refine while_nx (st1 := st ++ [.lst acc]) (by simp [x_var, len_str hz, hl]) ?_
  have a1 : sAsg (mIf (tCmp (mOp fIn (mOp idxD (mVar 0) (mVar 1)) (mLit (.str [32, 10])))) (mOp fAdd (mVar 1) (mLit (.int 1))) (mCall (fun ds st => if ds.length = 2 then r_group_end ds st else .no) (aCons (mVar 0) (aCons (mVar 1) aNil)))) (gN 4) [some (.str t), some (.int (p.length : Int)), x2, some (.ref n), x4] (st ++ [.lst acc]) = .nx [some (.str t), some (.int (p.length : Int)), x2, some (.ref n), some (.int ((p.length + g.length : Nat) : Int))] (st ++ [.lst acc]) := by
    simp only [x_asg, x_if, x_tCmp, x_op, x_var, List.getElem?_cons_zero, List.getElem?_cons_succ, vOf_str, vOf_int, bind_ok, x_op1, x_op2, hi, x_ofS, x_lit, w_in, inD, hd, Option.map_some, x_tCmp1, x_ifF, x_call, x_cons, x_cons1, x_nil, x_cons2, List.length_cons, List.length_nil, if_true, q, sBind_ok, x_gN, x_asg1]
    rfl
  have a2 : sIf (tCmp (mOp fNotIn (mOp idxD (mVar 0) (mVar 1)) (mLit (.str [32, 10])))) (sDrop (mApp (mVar 3) (mSli (mVar 0) (oSome (mVar 1)) (oSome (mVar 4))))) sNext [some (.str t), some (.int (p.length : Int)), x2, some (.ref n), some (.int ((p.length + g.length : Nat) : Int))] (st ++ [.lst acc]) = .nx [some (.str t), some (.int (p.length : Int)), x2, some (.ref n), some (.int ((p.length + g.length : Nat) : Int))] (st ++ [.lst (acc ++ [.str g])]) := by
    have ss : sliD (.str t) (some (p.length : Int)) (some ((p.length + g.length : Nat) : Int)) (st ++ [.lst acc]) = some (.str g) := by
      show (if Sz t.length then some (D.str (cut t _ _)) else none) = _
      rw [if_pos hz, cm]
    simp only [x_sif, x_tCmp, x_op, x_var, List.getElem?_cons_zero, List.getElem?_cons_succ, vOf_str, vOf_int, vOf_ref, bind_ok, x_op1, x_op2, hi, x_ofS, x_lit, w_notin, inD, hd, Option.map_some, Bool.not_false, x_tCmp1, sBind_ok, x_sifT, x_drop, x_app, x_app1, g1, x_app2, x_sli, x_sli1, x_oS, x_sli2, ss, hacc, if_true, g2]
  show (sSeq _ _) _ _ = _
  rw [x_seq, a1, sq_nx, x_seq, a2, sq_nx]
  simp [x_var]
theorem cut_gap {t : List Nat} (hz : Sz t.length = true) (st : Store) (x3 : Option D) (p : List Nat) (c : Nat) (r : List Nat) (x2 x4 : Option D) (e : t = p ++ c :: r) (hc : gp c = true) :
    sWhile cutT cutB [some (.str t), some (.int (p.length : Int)), x2, x3, x4] st = sWhile cutT cutB [some (.str t), some (.int ((p ++ [c]).length : Int)), x2, x3, some (.int ((p ++ [c]).length : Int))] st := by
  have hl : (p.length : Int) < t.length := by rw [e]; simp; omega
  have hi := idx_str (i := p.length) (c := c) st hz (by rw [e]; simp)
  have hm : c ∈ [32, 10] := by
    have : c = 32 ∨ c = 10 := by simpa [gp] using hc
    rcases this with rfl | rfl <;> decide
  have hd : decide (c ∈ [32, 10]) = true := decide_eq_true hm
  have gl : (p ++ [c]).length = p.length + 1 := by simp
  rw [gl]
  refine while_nx (st1 := st) (by simp [x_var, len_str hz, hl]) ?_
  have a1 : sAsg (mIf (tCmp (mOp fIn (mOp idxD (mVar 0) (mVar 1)) (mLit (.str [32, 10])))) (mOp fAdd (mVar 1) (mLit (.int 1))) (mCall (fun ds st => if ds.length = 2 then r_group_end ds st else .no) (aCons (mVar 0) (aCons (mVar 1) aNil)))) (gN 4) [some (.str t), some (.int (p.length : Int)), x2, x3, x4] st = .nx [some (.str t), some (.int (p.length : Int)), x2, x3, some (.int ((p.length + 1 : Nat) : Int))] st := by
    simp only [x_asg, x_if, x_tCmp, x_op, x_var, List.getElem?_cons_zero, List.getElem?_cons_succ, vOf_str, vOf_int, bind_ok, x_op1, x_op2, hi, x_ofS, x_lit, w_in, inD, hd, Option.map_some, x_tCmp1, x_ifT, w_add, w_addi, sBind_ok, x_gN, x_asg1]
    rfl
  have a2 : sIf (tCmp (mOp fNotIn (mOp idxD (mVar 0) (mVar 1)) (mLit (.str [32, 10])))) (sDrop (mApp (mVar 3) (mSli (mVar 0) (oSome (mVar 1)) (oSome (mVar 4))))) sNext [some (.str t), some (.int (p.length : Int)), x2, x3, some (.int ((p.length + 1 : Nat) : Int))] st = .nx [some (.str t), some (.int (p.length : Int)), x2, x3, some (.int ((p.length + 1 : Nat) : Int))] st := by
    simp only [x_sif, x_tCmp, x_op, x_var, List.getElem?_cons_zero, List.getElem?_cons_succ, vOf_str, vOf_int, vOf_ref, bind_ok, x_op1, x_op2, hi, x_ofS, x_lit, w_notin, inD, hd, Option.map_some, Bool.not_true, x_tCmp1, sBind_ok, x_sifF, x_next]
  show (sSeq _ _) _ _ = _
  rw [x_seq, a1, sq_nx, x_seq, a2, sq_nx]
  simp [x_var]
theorem cut_loop {t : List Nat} (hz : Sz t.length = true) (st : Store) {r : List Nat} {gs : List (List Nat)} (h : Gs r gs) : ∀ (p : List Nat) (acc : List D) (x2 x4 : Option D), t = p ++ r → acc.length + gs.length ≤ 16777216 →
    ∃ x4', sWhile cutT cutB [some (.str t), some (.int (p.length : Int)), x2, some (.ref st.length), x4] (st ++ [.lst acc]) = .nx [some (.str t), some (.int (t.length : Int)), x2, some (.ref st.length), x4'] (st ++ [.lst (acc ++ gs.map .str)]) := by
  induction h with
  | nil =>
    intro p acc x2 x4 e _
    have : t.length = p.length := by rw [e]; simp
    refine ⟨x4, ?_⟩
    rw [← this, while_end (st1 := st ++ [.lst acc]) (by simp [x_var, len_str hz])]
    simp
  | @gap c r gs hc _ ih =>
    intro p acc x2 x4 e hl
    rw [cut_gap hz (st ++ [MO.lst acc]) (some (.ref st.length)) p c r x2 x4 e hc]
    exact ih (p ++ [c]) acc x2 _ (by rw [e]; simp) hl
  | @bar r gs _ ih =>
    intro p acc x2 x4 e hl
    rw [List.length_cons] at hl
    rw [cut_turn hz st st.length rfl acc (Sz_of (by omega)) p [45] r x2 x4 (by rw [e]; simp) (.inl rfl) (fun k hk => absurd rfl hk)]
    obtain ⟨x4', q⟩ := ih (p ++ [45]) (acc ++ [.str [45]]) x2 _ (by rw [e]; simp) (by simp; omega)
    exact ⟨x4', by rw [q]; simp⟩
  | @run k c g r gs hk hg hr _ ih =>
    intro p acc x2 x4 e hl
    rw [List.length_cons] at hl
    rw [cut_turn hz st st.length rfl acc (Sz_of (by omega)) p (c :: g) r x2 x4 (by rw [e]; simp) (.inr ⟨k, c, g, hk, rfl, hg⟩) (fun k2 _ hk2 x hx => by
      have e1 := hk2 c List.mem_cons_self
      rw [hg c List.mem_cons_self] at e1
      rw [← e1]
      exact hr x hx)]
    obtain ⟨x4', q⟩ := ih (p ++ (c :: g)) (acc ++ [.str (c :: g)]) x2 _ (by rw [e]; simp) (by simp; omega)
    exact ⟨x4', by rw [q]; simp⟩
theorem gs_count {t : List Nat} {gs : List (List Nat)} (h : Gs t gs) : gs.length ≤ t.length := by
  induction h with
  | nil => simp
  | gap _ _ ih => simp; omega
  | bar _ ih => simp; omega
  | run _ _ _ _ ih => simp; omega
def eText (i j : Int) : Er := ⟨"InvalidText", [("at", .int i), ("why", .int j)]⟩
theorem cut_env (d : D) : envE 5 ([d].map some) = [some d, none, none, none, none] := rfl
theorem cut_long {t : List Nat} (st : Store) (hz : Sz t.length = true) (h : 60000 < t.length) : r_cut_groups [.str t] st = .er (eText (-1) 0) st := by
  show bodyR (m_cut_groups r_group_end (envE 5 ([D.str t].map some)) st) = _
  have hl : (60000 : Int) < t.length := by omega
  rw [cut_env]
  simp [m_cut_groups, x_var, fIsi, tyD, truD, len_str hz, hl, negD, eText]
theorem cut_ok {t : List Nat} {gs : List (List Nat)} (st : Store) (h : Gs t gs) (ho : ∀ c ∈ t, okc c = true) (hl : t.length ≤ 60000) :
    r_cut_groups [.str t] st = if gs.length ≤ 4000 then .ok (.tup (gs.map .str)) (st ++ [.lst (gs.map .str)]) else .er (eText (-1) 2) (st ++ [.lst (gs.map .str)]) := by
  have hz : Sz t.length = true := Sz_of (by omega)
  have hc := gs_count h
  obtain ⟨x1, x2, e1⟩ := chk_loop (some (.str t)) none none st t 0 none none ho
  obtain ⟨x4, e2⟩ := cut_loop hz st h [] [] x2 none rfl (by simp; omega)
  have hn : ¬ (60000 : Int) < t.length := by omega
  show bodyR (m_cut_groups r_group_end (envE 5 ([D.str t].map some)) st) = _
  rw [cut_env]
  have g1 : (st ++ [MO.lst (gs.map D.str)])[st.length]? = some (.lst (gs.map .str)) := by simp
  simp only [List.nil_append] at e2
  have s0 : Sz 0 = true := by decide
  have e2' : sWhile cutT cutB [some (.str t), some (.int 0), x2, some (.ref st.length), none] (st ++ [.lst []]) = _ := e2
  by_cases hg : gs.length ≤ 4000
  · rw [if_pos hg]
    have hg' : ¬ (4000 : Int) < gs.length := by omega
    unfold m_cut_groups
    simp only [x_seq]
    simp [x_var, fIsi, tyD, truD, len_str hz, hn, itemsD, numbI, e1, s0]
    rw [e2']
    simp [x_var, fLen, lenD, g1, hg', fTup, seqD]
  · rw [if_neg hg]
    have hg' : (4000 : Int) < gs.length := by omega
    unfold m_cut_groups
    simp only [x_seq]
    simp [x_var, fIsi, tyD, truD, len_str hz, hn, itemsD, numbI, e1, s0]
    rw [e2']
    simp [x_var, fLen, lenD, g1, hg', negD, eText]
end K01
set_option Elab.async false
set_option linter.all false
set_option autoImplicit false
set_option maxRecDepth 100000
set_option maxHeartbeats 4000000
/-! Law k01, plain: the law's own groups. -/
namespace K01
open Bw
theorem rng_down (n : Nat) : rng ((n + 1 : Nat) : Int) (-1) (n + 1) = .int ((n + 1 : Nat) : Int) :: rng (n : Int) (-1) n := by
  unfold rng
  rw [List.range_succ_eq_map, List.map_cons, List.map_map]
  congr 1
  · simp
    intro a _
    omega
theorem ins_head (b : Nat) (r : List Nat) : ∃ x, ins (b :: r) = b :: x := by
  cases r with
  | nil => exact ⟨[], rfl⟩
  | cons c r =>
    rw [ins]
    split
    · exact ⟨_, rfl⟩
    · exact ⟨_, rfl⟩
theorem ins_len : ∀ l : List Nat, (ins l).length ≤ 2 * l.length
  | [] => by simp [ins]
  | [a] => by simp [ins]
  | a :: b :: r => by
    have := ins_len (b :: r)
    rw [ins]
    split
    · simp at this ⊢; omega
    · simp at this ⊢; omega
abbrev grpB : MS := (sIf (tAnd (tCmp (mOp fNotIn (mOp idxD (mVar 1) (mVar 2)) (mLit (.str [45, 32])))) (tAnd (tCmp (mOp fNotIn (mOp idxD (mVar 1) (mOp fSub (mVar 2) (mLit (.int 1)))) (mLit (.str [45, 32])))) (tCmp (mOp fNe (mChain fLe fLe (mLit (.str [48])) (mOp idxD (mVar 1) (mVar 2)) (mLit (.str [57]))) (mChain fLe fLe (mLit (.str [48])) (mOp idxD (mVar 1) (mOp fSub (mVar 2) (mLit (.int 1)))) (mLit (.str [57]))))))) (sAsg (mOp fAdd (mOp fAdd (mSli (mVar 1) oNone (oSome (mVar 2))) (mLit (.str [32]))) (mSli (mVar 1) (oSome (mVar 2)) oNone)) (gN 1)) sNext)
theorem le_one (a b : Nat) : leD (.str [a]) (.str [b]) = some (decide (a ≤ b)) := by
  show some (!strLt [b] [a]) = _
  congr 1
  simp only [strLt]
  by_cases h : b < a
  · simp [h]
    try omega
  · by_cases h2 : a < b
    · simp [h, h2]; omega
    · simp [h, h2]; omega
theorem chain_fig {e : ME} {ρ : Env} {st : Store} {b : Nat} (h : e ρ st = .ok (.str [b]) st) : mChain fLe fLe (mLit (.str [48])) e (mLit (.str [57])) ρ st = .ok (.bl (decide (48 ≤ b ∧ b ≤ 57))) st := by
  have h1 : fLe (.str [48]) (.str [b]) st = some (.bl (decide (48 ≤ b))) := by rw [w_le, le_one]; rfl
  have h2 : fLe (.str [b]) (.str [57]) st = some (.bl (decide (b ≤ 57))) := by rw [w_le, le_one]; rfl
  simp only [x_chain, x_lit, bind_ok, x_chain1, h, h1]
  by_cases g : 48 ≤ b
  · rw [decide_eq_true g, x_chain2]
    simp only [x_lit, bind_ok, x_op2, h2, x_ofS]
    simp [g]
  · rw [decide_eq_false g, x_chain3]
    simp [g]
theorem grp_turn (x0 x3 : Option D) (st : Store) (q : List Nat) (a b : Nat) (s : List Nat) (hz : Sz (q.length + s.length + 3) = true) (x2 : Option D) :
    grpB [x0, some (.str (q ++ [a] ++ b :: s)), some (.int ((q.length + 1 : Nat) : Int)), x3] st = .nx [x0, some (.str (q ++ [a] ++ (if bd a b then 32 :: b :: s else b :: s))), some (.int ((q.length + 1 : Nat) : Int)), x3] st := by
  have hz' : q.length + s.length + 3 ≤ 16777216 := of_decide_eq_true hz
  have z1 : Sz (q ++ [a] ++ b :: s).length = true := Sz_of (by simp; omega)
  have i1 : idxD (.str (q ++ [a] ++ b :: s)) (.int ((q.length + 1 : Nat) : Int)) st = some (.str [b]) := idx_str st z1 (by simp)
  have i2 : idxD (.str (q ++ [a] ++ b :: s)) (.int (((q.length + 1 : Nat) : Int) - 1)) st = some (.str [a]) := by
    have e : (((q.length + 1 : Nat) : Int) - 1) = (q.length : Int) := by push_cast; omega
    rw [e]
    exact idx_str st z1 (by simp)
  have s1 : sliD (.str (q ++ [a] ++ b :: s)) none (some ((q.length + 1 : Nat) : Int)) st = some (.str (q ++ [a])) := by
    show (if Sz (q ++ [a] ++ b :: s).length then some (D.str (cut _ _ _)) else none) = _
    rw [if_pos z1]
    have h1 : ¬ (((q.length + 1 : Nat) : Int) < 0) := by omega
    unfold cut clip
    simp only [h1, if_false, Int.toNat_natCast, List.drop_zero, Nat.sub_zero]
    have e2 : min (q.length + 1) (q ++ [a] ++ b :: s).length = (q ++ [a]).length := by simp
    rw [e2, List.take_left]
  have s2 : sliD (.str (q ++ [a] ++ b :: s)) (some ((q.length + 1 : Nat) : Int)) none st = some (.str (b :: s)) := by
    show (if Sz (q ++ [a] ++ b :: s).length then some (D.str (cut _ _ _)) else none) = _
    rw [if_pos z1]
    have h1 : ¬ (((q.length + 1 : Nat) : Int) < 0) := by omega
    unfold cut clip
    simp only [h1, if_false, Int.toNat_natCast]
    have e2 : min (q.length + 1) (q ++ [a] ++ b :: s).length = (q ++ [a]).length := by simp
    rw [e2, List.drop_left]
    have e3 : (q ++ [a] ++ b :: s).length - (q ++ [a]).length = (b :: s).length := by simp; omega
    rw [e3, List.take_length]
  by_cases ha : a = 45 ∨ a = 32
  · have hb : bd a b = false := by rcases ha with rfl | rfl <;> simp [bd]
    rw [hb]
    by_cases h2 : b = 45 ∨ b = 32
    · have m : b ∈ [45, 32] := by rcases h2 with rfl | rfl <;> decide
      simp only [grpB, x_sif, x_tAnd, x_tCmp, x_op, x_var, List.getElem?_cons_zero, List.getElem?_cons_succ, vOf_str, vOf_int, bind_ok, x_op1, x_op2, i1, x_ofS, x_lit, w_notin, inD, decide_eq_true m, Option.map_some, Bool.not_true, x_tCmp1, x_tAndF, sBind_ok, x_sifF, x_next]
      rfl
    · have m : b ∉ [45, 32] := by simpa using h2
      have m2 : a ∈ [45, 32] := by rcases ha with rfl | rfl <;> decide
      simp only [grpB, x_sif, x_tAnd, x_tCmp, x_op, x_var, List.getElem?_cons_zero, List.getElem?_cons_succ, vOf_str, vOf_int, bind_ok, x_op1, x_op2, i1, i2, x_ofS, x_lit, w_notin, inD, decide_eq_true m2, decide_eq_false m, Option.map_some, Bool.not_true, Bool.not_false, x_tCmp1, x_tAndF, x_tAndT, w_sub, w_subi, sBind_ok, x_sifF, x_next]
      rfl
  · have m2 : a ∉ [45, 32] := by simpa using ha
    by_cases h2 : b = 45 ∨ b = 32
    · have m : b ∈ [45, 32] := by rcases h2 with rfl | rfl <;> decide
      have hb : bd a b = false := by rcases h2 with rfl | rfl <;> simp [bd]
      rw [hb]
      simp only [grpB, x_sif, x_tAnd, x_tCmp, x_op, x_var, List.getElem?_cons_zero, List.getElem?_cons_succ, vOf_str, vOf_int, bind_ok, x_op1, x_op2, i1, x_ofS, x_lit, w_notin, inD, decide_eq_true m, Option.map_some, Bool.not_true, x_tCmp1, x_tAndF, sBind_ok, x_sifF, x_next]
      rfl
    · have m : b ∉ [45, 32] := by simpa using h2
      have hb : bd a b = (decide (48 ≤ b ∧ b ≤ 57) != decide (48 ≤ a ∧ a ≤ 57)) := by
        have n1 : ¬ a = 45 ∧ ¬ a = 32 := by simpa using ha
        have n2 : ¬ b = 45 ∧ ¬ b = 32 := by simpa using h2
        unfold bd
        simp [n1.1, n1.2, n2.1, n2.2]
      have c1 := chain_fig (e := mOp idxD (mVar 1) (mVar 2)) (ρ := [x0, some (.str (q ++ [a] ++ b :: s)), some (.int ((q.length + 1 : Nat) : Int)), x3]) (st := st) (b := b) (by
        simp only [x_op, x_var, List.getElem?_cons_zero, List.getElem?_cons_succ, vOf_str, vOf_int, bind_ok, x_op1, x_op2, i1, x_ofS])
      have c2 := chain_fig (e := mOp idxD (mVar 1) (mOp fSub (mVar 2) (mLit (.int 1)))) (ρ := [x0, some (.str (q ++ [a] ++ b :: s)), some (.int ((q.length + 1 : Nat) : Int)), x3]) (st := st) (b := a) (by
        simp only [x_op, x_var, List.getElem?_cons_zero, List.getElem?_cons_succ, vOf_str, vOf_int, bind_ok, x_op1, x_op2, x_lit, w_sub, w_subi, i2, x_ofS])
      have ev : ∀ p r : Bool, fNe (.bl p) (.bl r) st = some (.bl (p != r)) := by intro p r; cases p <;> cases r <;> rfl
      have tt : (tAnd (tCmp (mOp fNotIn (mOp idxD (mVar 1) (mVar 2)) (mLit (.str [45, 32])))) (tAnd (tCmp (mOp fNotIn (mOp idxD (mVar 1) (mOp fSub (mVar 2) (mLit (.int 1)))) (mLit (.str [45, 32])))) (tCmp (mOp fNe (mChain fLe fLe (mLit (.str [48])) (mOp idxD (mVar 1) (mVar 2)) (mLit (.str [57]))) (mChain fLe fLe (mLit (.str [48])) (mOp idxD (mVar 1) (mOp fSub (mVar 2) (mLit (.int 1)))) (mLit (.str [57]))))))) [x0, some (.str (q ++ [a] ++ b :: s)), some (.int ((q.length + 1 : Nat) : Int)), x3] st = .ok (bd a b) st := by
        simp only [x_tAnd, x_tCmp, x_op (f := fNotIn), x_op (f := idxD), x_op (f := fSub), x_op (f := fNe), c1, c2, x_var, List.getElem?_cons_zero, List.getElem?_cons_succ, vOf_str, vOf_int, bind_ok, x_op1, x_op2, i1, i2, x_ofS, x_lit, w_notin, inD, decide_eq_false m2, decide_eq_false m, Option.map_some, Bool.not_false, x_tCmp1, x_tAndT, w_sub, w_subi, ev, hb]
      show sIf _ _ _ _ _ = _
      rw [x_sif, tt, sBind_ok]
      cases hq : bd a b with
      | false => rfl
      | true =>
        have z2 : Sz ((q ++ [a]).length + [32].length) = true := Sz_of (by simp; omega)
        have z3 : Sz ((q ++ [a] ++ [32]).length + (b :: s).length) = true := Sz_of (by simp; omega)
        have d1 : fAdd (.str (q ++ [a])) (.str [32]) st = some (.str (q ++ [a] ++ [32])) := by
          show (if Sz _ then _ else none) = _
          rw [if_pos z2]
        have d2 : fAdd (.str (q ++ [a] ++ [32])) (.str (b :: s)) st = some (.str (q ++ [a] ++ [32] ++ b :: s)) := by
          show (if Sz _ then _ else none) = _
          rw [if_pos z3]
        simp only [x_sifT, x_asg, x_op, x_sli, x_sli1, x_oN, x_oS, x_sli2, x_var, List.getElem?_cons_zero, List.getElem?_cons_succ, vOf_str, vOf_int, bind_ok, x_op1, x_op2, s1, s2, x_ofS, x_lit, d1, d2, sBind_ok, x_gN, x_asg1]
        simp
theorem grp_loop (x0 x3 : Option D) (st : Store) : ∀ (n : Nat) (q s : List Nat) (x2 : Option D), q.length = n → s ≠ [] → 2 * (q ++ s).length + 10 ≤ 16777216 →
    ∃ x2', loopF (fun _ => True) (gN 2) grpB (rng (n : Int) (-1) n) [x0, some (.str (q ++ ins s)), x2, x3] st = .nx [x0, some (.str (ins (q ++ s))), x2', x3] st
  | 0, q, s, x2, hq, hs, _ => by
    have : q = [] := List.length_eq_zero_iff.mp hq
    subst this
    exact ⟨x2, loop_nil trivial⟩
  | n + 1, q, s, x2, hq, hs, hz => by
    obtain ⟨q', a, rfl⟩ : ∃ q' a, q = q' ++ [a] := by
      refine ⟨q.dropLast, q.getLast (by intro e; rw [e] at hq; simp at hq), (List.dropLast_concat_getLast _).symm⟩
    have hq' : q'.length = n := by simpa using hq
    cases s with
    | nil => exact absurd rfl hs
    | cons b r =>
      obtain ⟨x, ex⟩ := ins_head b r
      have hl := ins_len (b :: r)
      rw [ex] at hl
      have t1 := grp_turn x0 x3 st q' a b x (Sz_of (by simp at hz hl ⊢; omega)) x2
      rw [hq'] at t1
      rw [rng_down, ex, loop_nx trivial (ρ' := [x0, some (.str (q' ++ [a] ++ b :: x)), some (.int ((n + 1 : Nat) : Int)), x3]) rfl t1]
      have e2 : q' ++ [a] ++ (if bd a b then 32 :: b :: x else b :: x) = q' ++ ins (a :: b :: r) := by
        rw [ins, ex]
        cases bd a b <;> simp
      rw [e2]
      obtain ⟨x2', h⟩ := grp_loop x0 x3 st n q' (a :: b :: r) _ hq' (by simp) (by simp at hz ⊢; omega)
      exact ⟨x2', by rw [h]; simp⟩
theorem repl_len (t : List Nat) : (repl t).length ≤ 3 * t.length := by
  induction t with
  | nil => simp [repl_nil]
  | cons c t ih =>
    rw [repl_cons]
    split
    · simp; omega
    · split
      · simp; omega
      · simp; omega
theorem rep_len (t : List Nat) : (repD 10 [32] t).length = t.length := by
  induction t with
  | nil => rfl
  | cons c t ih =>
    have : repD 10 [32] (c :: t) = (if c = 10 then [32] else [c]) ++ repD 10 [32] t := by simp [repD]
    rw [this, List.length_append, ih]
    split <;> simp <;> omega
theorem lc_words (ρ : Env) (st : Store) (x0 x1 x2 : Option D) : ∀ (ws : List (List Nat)) (acc : List D), acc.length + ws.length ≤ 16777216 → lcF (fun _ => True) (gN 3) (tCmp (mOp fNe (mVar 3) (mLit (.str [])))) (mVar 3) (ws.map .str) acc [x0, x1, x2, none] st = .ok (acc ++ (ws.filter fun w => !w.isEmpty).map .str) st
  | [], acc, _ => by rw [List.map_nil, lc_nil trivial]; simp
  | w :: ws, acc, h => by
    rw [List.length_cons] at h
    rw [List.map_cons]
    cases w with
    | nil =>
      rw [lc_skip trivial (ρ' := [x0, x1, x2, some (.str [])]) (st' := st) rfl (by simp [x_var])]
      rw [lc_words ρ st x0 x1 x2 ws acc (by omega)]
      simp
    | cons c w =>
      rw [lc_put (y := .str (c :: w)) trivial (ρ' := [x0, x1, x2, some (.str (c :: w))]) (st' := st) (st2 := st) rfl (by simp [x_var]) (by simp [x_var]) (Sz_of (by omega))]
      rw [lc_words ρ st x0 x1 x2 ws (acc ++ [D.str (c :: w)]) (by simp; omega)]
      simp
theorem splD_len (l : List Nat) : (splD 32 l).length ≤ l.length + 1 := by
  induction l with
  | nil => simp [splD]
  | cons c l ih =>
    rw [splD]
    split
    · simp; omega
    · cases h : splD 32 l with
      | nil => simp
      | cons w ws => rw [h] at ih; simp at ih ⊢; omega
theorem groups1 {t : List Nat} (st : Store) (hl : t.length ≤ 100000) : r__law_groups [.str t] st = .ok (.tup ((words (ins (repl t))).map .str)) st := by
  show bodyR (m__law_groups (envE 4 ([D.str t].map some)) st) = _
  have e0 : envE 4 ([D.str t].map some) = [some (.str t), none, none, none] := rfl
  have r1 := rep_len t
  have rl := repl_len t
  have il := ins_len (repl t)
  have z1 : decide (t.length + (t.length + 1) * [32].length ≤ 16777216) = true := decide_eq_true (by simp; omega)
  have z2 : decide ((repD 10 [32] t).length + ((repD 10 [32] t).length + 1) * [32, 45, 32].length ≤ 16777216) = true := decide_eq_true (by simp; omega)
  have zr : Sz (repl t).length = true := Sz_of (by omega)
  have m1 : mRep 45 [32, 45, 32] (mRep 10 [32] (mVar 0)) [some (.str t), none, none, none] st = .ok (.str (repl t)) st := by
    simp only [mRep, x_var, List.getElem?_cons_zero, vOf_str, bind_ok, z1, if_true, z2]
    rfl
  have main : ∃ x2', sFor (iRng3 (aCons (mOp fSub (mBlt fLen (aCons (mVar 1) aNil)) (mLit (.int 1))) (aCons (mLit (.int 0)) (aCons (mUn (fun x _ => negD x) (mLit (.int 1))) aNil)))) (gN 2) grpB [some (.str t), some (.str (repl t)), none, none] st = .nx [some (.str t), some (.str (ins (repl t))), x2', none] st := by
    have lf := len_str zr st
    simp only [x_for, x_iRng3, x_cons, x_op, x_blt, x_var, List.getElem?_cons_zero, List.getElem?_cons_succ, vOf_str, bind_ok, x_nil, x_cons1, x_cons2, lf, x_ofS, x_op1, x_lit, x_op2, w_sub, w_subi, x_un, x_un1, negD]
    cases hr : repl t with
    | nil =>
      refine ⟨none, ?_⟩
      have e4 : ((([] : List Nat).length : Int) - 1 - 0).toNat = 0 := rfl
      rw [e4, if_pos (by decide), sBind_ok]
      exact loop_nil (chk := fun _ => True) (g := gN 2) (body := grpB) trivial
    | cons a l =>
      obtain ⟨q, b, e⟩ : ∃ q b, a :: l = q ++ [b] := ⟨(a :: l).dropLast, (a :: l).getLast (by simp), (List.dropLast_concat_getLast _).symm⟩
      have hn : (((q ++ [b]).length : Int) - 1) = (q.length : Int) := by simp
      rw [hr] at rl
      obtain ⟨x2', h⟩ := grp_loop (some (.str t)) none st q.length q [b] none rfl (by simp) (by rw [← e]; simp at rl ⊢; omega)
      refine ⟨x2', ?_⟩
      rw [e, hn]
      have e4 : ((q.length : Int) - 0).toNat = q.length := by simp
      rw [e4]
      have e5 : ins [b] = [b] := by simp [ins]
      rw [e5] at h
      have ql : q.length ≤ 300000 := by
        have := congrArg List.length e
        simp at this rl
        omega
      rw [if_pos (by simp [Rg]; omega), sBind_ok]
      exact h
  obtain ⟨x2', main⟩ := main
  have spl : fSplit (ins (repl t)) [.str [32]] st = some (.lst ((splD 32 (ins (repl t))).map .str)) := by
    have : Sz ((ins (repl t)).length + 2) = true := Sz_of (by omega)
    simp [fSplit, this]
  have sl := splD_len (ins (repl t))
  have lw := lc_words [] st (some (.str t)) (some (.str (ins (repl t)))) x2' (splD 32 (ins (repl t))) [] (by simp; omega)
  have wp : wipeE [some (.str t), some (.str (ins (repl t))), x2', none] [3] = [some (.str t), some (.str (ins (repl t))), x2', none] := rfl
  rw [e0]
  unfold m__law_groups
  rw [x_seq, x_asg, m1, sBind_ok, x_gN, x_asg1, sq_nx, x_seq]
  show bodyR (Out.sq (sFor _ _ grpB [some (.str t), some (.str (repl t)), none, none] st) _) = _
  rw [main, sq_nx]
  simp only [x_ret, x_blt, x_cons, x_lc, x_iVal, x_str1, x_var, List.getElem?_cons_zero, List.getElem?_cons_succ, vOf_str, bind_ok, x_str11, x_lit, x_nil, x_cons1, x_cons2, spl, x_ofS, itemsD, wp, lw, x_lc1, fTup, seqD, Option.map_some, sBind_ok, bodyR_rt]
  simp [words]
end K01
set_option Elab.async false
set_option linter.all false
set_option autoImplicit false
set_option maxRecDepth 100000
set_option maxHeartbeats 4000000
/-! Law k01, plain: told tightly; errors told. -/
namespace K01
open Bw
noncomputable abbrev tigB : MS := (sSeq (sAsg (mAnd (mOp fNe (mVar 1) (mLit (.str []))) (mAnd (mOp fNotIn (mLit (.str [45])) (mTup (aCons (mOp idxD (mVar 1) (mUn (fun x _ => negD x) (mLit (.int 1)))) (aCons (mVar 2) aNil)))) (mOp fEq (mChain fLe fLe (mLit (.str [48])) (mOp idxD (mVar 1) (mUn (fun x _ => negD x) (mLit (.int 1)))) (mLit (.str [57]))) (mChain fLe fLe (mLit (.str [48])) (mOp idxD (mVar 2) (mLit (.int 0))) (mLit (.str [57])))))) (gN 3))
    (sAsg (mOp fAdd (mOp fAdd (mVar 1) (mIf (tVal (mVar 3)) (mLit (.str [32])) (mLit (.str [])))) (mVar 2)) (gN 1)))
theorem idx_last {t : List Nat} {a : Nat} (st : Store) (hz : Sz (t.length + 1) = true) : idxD (.str (t ++ [a])) (.int (-1)) st = some (.str [a]) := by
  have z : Sz (t ++ [a]).length = true := by simpa using hz
  show (if Sz (t ++ [a]).length then (atD (t ++ [a]) (-1)).map fun c => D.str [c] else none) = _
  rw [if_pos z]
  unfold atD atN
  rw [if_neg (by decide), if_pos (by simp; omega)]
  have e : ((-1 : Int) + ((t ++ [a]).length : Int)).toNat = t.length := by simp; omega
  simp only [Option.bind_some, e]
  simp
/-- one group more, told tightly: p the group before -/
theorem tig_turn (x0 x3 : Option D) (st : Store) (told p g : List Nat) (hz : Sz (told.length + g.length + 2) = true) (hp : p = [] ∧ told = [] ∨ ∃ q a, told = q ++ [a] ∧ p.getLast? = some a) (b : Nat) (g' : List Nat) (hg : g = b :: g') (ho : okc b = true) (hsh : ∀ x ∈ g, x < 0x110000) (hsh2 : ∀ x ∈ told, x < 0x110000) :
    ∃ x3', tigB [x0, some (.str told), some (.str g), x3] st = .nx [x0, some (.str (told ++ ((if alike p g then [32] else []) ++ g))), some (.str g), x3'] st := by
  subst hg
  have hz' : told.length + (b :: g').length + 2 ≤ 16777216 := of_decide_eq_true hz
  have key : sAsg (mAnd (mOp fNe (mVar 1) (mLit (.str []))) (mAnd (mOp fNotIn (mLit (.str [45])) (mTup (aCons (mOp idxD (mVar 1) (mUn (fun x _ => negD x) (mLit (.int 1)))) (aCons (mVar 2) aNil)))) (mOp fEq (mChain fLe fLe (mLit (.str [48])) (mOp idxD (mVar 1) (mUn (fun x _ => negD x) (mLit (.int 1)))) (mLit (.str [57]))) (mChain fLe fLe (mLit (.str [48])) (mOp idxD (mVar 2) (mLit (.int 0))) (mLit (.str [57])))))) (gN 3) [x0, some (.str told), some (.str (b :: g')), x3] st = .nx [x0, some (.str told), some (.str (b :: g')), some (.bl (alike p (b :: g')))] st := by
    rcases hp with ⟨rfl, rfl⟩ | ⟨q, a, rfl, hp⟩
    · simp [x_var, truD, alike]
    · have i1 : idxD (.str (q ++ [a])) (.int (-1)) st = some (.str [a]) := idx_last st (Sz_of (by simp at hz'; omega))
      have i2 : idxD (.str (b :: g')) (.int 0) st = some (.str [b]) := idx_str (i := 0) st (Sz_of (by omega)) rfl
      have s2 : Sz 2 = true := by decide
      have ne : (q ++ [a] = []) = False := by simp
      have sh1 : shps 59 [.str [a], .str (b :: g')] = true := by
        have h1 : a < 0x110000 := hsh2 a (by simp)
        have h2 : (b :: g').all (· < 0x110000) = true := by
          rw [List.all_eq_true]
          intro x hx
          exact decide_eq_true (hsh x hx)
        simp only [shps, shp, h2, Bool.and_true]
        simp [h1]
      have nin : fNotIn (.str [45]) (.tup [.str [a], .str (b :: g')]) st = some (.bl (!(decide (a = 45) || decide (b :: g' = [45])))) := by
        show ((if shp 60 (.str [45]) && shps 59 _ then some (List.any _ _) else none : Option Bool).map _) = _
        rw [sh1]
        simp [shp, eqD]
        by_cases h1 : a = 45
        · simp [h1]
        · by_cases h2 : b = 45 <;> cases g' <;> simp [h1, h2]
      have c1 := chain_fig (e := mOp idxD (mVar 1) (mUn (fun x _ => negD x) (mLit (.int 1)))) (ρ := [x0, some (.str (q ++ [a])), some (.str (b :: g')), x3]) (st := st) (b := a) (by
        simp only [x_op, x_var, List.getElem?_cons_zero, List.getElem?_cons_succ, vOf_str, bind_ok, x_op1, x_op2, x_un, x_un1, x_lit, negD, i1, x_ofS])
      have c2 := chain_fig (e := mOp idxD (mVar 2) (mLit (.int 0))) (ρ := [x0, some (.str (q ++ [a])), some (.str (b :: g')), x3]) (st := st) (b := b) (by
        simp only [x_op, x_var, List.getElem?_cons_zero, List.getElem?_cons_succ, vOf_str, bind_ok, x_op1, x_op2, x_lit, i2, x_ofS])
      have ev : ∀ p r : Bool, fEq (.bl p) (.bl r) st = some (.bl (p == r)) := by intro p r; cases p <;> cases r <;> rfl
      have f1 : fNe (.str (q ++ [a])) (.str []) st = some (.bl true) := by
        simp
      have ng : negD (.int 1) = some (.int (-1)) := rfl
      simp only [x_asg, x_and, x_op (f := fNe), x_op (f := fNotIn), x_op (f := idxD), x_op (f := fEq), x_var, List.getElem?_cons_zero, List.getElem?_cons_succ, vOf_str, bind_ok, x_op1, x_op2, x_lit, f1, x_ofS, x_and1, truD, x_andT, x_tup, x_cons, x_un, x_un1, ng, i1, x_nil, x_cons1, x_cons2, List.length_cons, List.length_nil, s2, if_true, nin]
      by_cases hb : (decide (a = 45) || decide (b :: g' = [45])) = true
      · have : alike p (b :: g') = false := by
          unfold alike
          rw [hp]
          simp at hb ⊢
          rcases hb with h | h
          · simp [h]
          · intro _ h2
            exact absurd h.1 (fun e => h2 e h.2)
        rw [hb, this]
        rfl
      · have hb' : (decide (a = 45) || decide (b :: g' = [45])) = false := by simpa using hb
        have : alike p (b :: g') = (decide (48 ≤ a ∧ a ≤ 57) == decide (48 ≤ b ∧ b ≤ 57)) := by
          unfold alike
          rw [hp]
          simp only [Bool.or_eq_false_iff, decide_eq_false_iff_not] at hb'
          have e1 : (a != 45) = true := by simpa using hb'.1
          have e2 : ((b :: g') != [45]) = true := by simpa using hb'.2
          simp only [e1, e2, Bool.true_and]
        rw [hb', this]
        simp only [Bool.not_false, x_andT, x_op (f := fEq), c1, c2, bind_ok, x_op1, x_op2, ev, x_ofS, sBind_ok, x_gN, x_asg1]
        rfl
  refine ⟨some (.bl (alike p (b :: g'))), ?_⟩
  show (sSeq _ _) _ _ = _
  rw [x_seq, key, sq_nx]
  cases ha : alike p (b :: g') with
  | false =>
    have d1 : addD (.str told) (.str []) = some (.str told) := by
      show (if Sz (told.length + 0) then _ else none) = _
      rw [if_pos (Sz_of (by omega))]
      simp
    have d2 : addD (.str told) (.str (b :: g')) = some (.str (told ++ b :: g')) := if_pos (Sz_of (by omega))
    simp [x_var, truD, d1, d2]
  | true =>
    have d1 : addD (.str told) (.str [32]) = some (.str (told ++ [32])) := if_pos (Sz_of (by simp; omega))
    have d2 : addD (.str (told ++ [32])) (.str (b :: g')) = some (.str ((told ++ [32]) ++ b :: g')) := if_pos (Sz_of (by simp at hz' ⊢; omega))
    simp [x_var, truD, d1, d2]
theorem tig_loop (x0 : Option D) (st : Store) : ∀ (gs : List (List Nat)) (told p : List Nat) (x2 x3 : Option D), (∀ g ∈ gs, good g) → (∀ g ∈ gs, ∀ x ∈ g, x < 0x110000) → (∀ x ∈ told, x < 0x110000) → (p = [] ∧ told = [] ∨ ∃ q a, told = q ++ [a] ∧ p.getLast? = some a) → told.length + (tgt p gs).length + 2 ≤ 16777216 →
    ∃ x2' x3', loopF (fun _ => True) (gN 2) tigB (gs.map .str) [x0, some (.str told), x2, x3] st = .nx [x0, some (.str (told ++ tgt p gs)), x2', x3'] st
  | [], told, p, x2, x3, _, _, _, _, _ => ⟨x2, x3, by rw [List.map_nil, loop_nil trivial]; simp [tgt]⟩
  | g :: gs, told, p, x2, x3, hg, hsh, ht, hp, hl => by
    obtain ⟨b, g', e, hb⟩ : ∃ b g', g = b :: g' ∧ okc b = true := by
      rcases hg g List.mem_cons_self with rfl | ⟨k, c, r, hk, rfl, hr⟩
      · exact ⟨45, [], rfl, rfl⟩
      · exact ⟨c, r, rfl, by have := hr c List.mem_cons_self; simp [okc, this, hk]⟩
    rw [tgt] at hl
    simp only [List.length_append] at hl
    obtain ⟨x3', t1⟩ := tig_turn x0 x3 st told p g (Sz_of (by omega)) hp b g' e hb (hsh g List.mem_cons_self) ht
    rw [List.map_cons, loop_nx trivial (ρ' := [x0, some (.str told), some (.str g), x3]) rfl t1]
    have hx : ∀ x ∈ told ++ ((if alike p g then [32] else []) ++ g), x < 0x110000 := by
      intro x hx
      rcases List.mem_append.mp hx with h | h
      · exact ht x h
      · rcases List.mem_append.mp h with h | h
        · split at h
          · have : x = 32 := by simpa using h
            omega
          · cases h
        · exact hsh g List.mem_cons_self x h
    obtain ⟨q2, a2, e2⟩ : ∃ q2 a2, g = q2 ++ [a2] := ⟨g.dropLast, g.getLast (by rw [e]; simp), (List.dropLast_concat_getLast _).symm⟩
    obtain ⟨x2', x3'', h⟩ := tig_loop x0 st gs (told ++ ((if alike p g then [32] else []) ++ g)) g _ x3' (fun y hy => hg y (List.mem_cons_of_mem _ hy)) (fun y hy => hsh y (List.mem_cons_of_mem _ hy)) hx
      (.inr ⟨told ++ ((if alike p g then [32] else []) ++ q2), a2, by rw [e2]; simp, by rw [e2]; simp⟩) (by simp only [List.length_append]; omega)
    refine ⟨x2', x3'', h.trans ?_⟩
    rw [tgt]
    simp
theorem tight1 {gs : List (List Nat)} (st : Store) (hg : ∀ g ∈ gs, good g) (hsh : ∀ g ∈ gs, ∀ x ∈ g, x < 0x110000) (hl : (tgt [] gs).length ≤ 100000) : r__law_tight [.tup (gs.map .str)] st = .ok (.str (tgt [] gs)) st := by
  show bodyR (m__law_tight (envE 4 ([D.tup (gs.map .str)].map some)) st) = _
  have e0 : envE 4 ([D.tup (gs.map .str)].map some) = [some (.tup (gs.map .str)), none, none, none] := rfl
  obtain ⟨x2, x3, h⟩ := tig_loop (some (.tup (gs.map .str))) st gs [] [] none none hg hsh (by simp) (.inl ⟨rfl, rfl⟩) (by simp; omega)
  rw [e0, m__law_tight]
  simp only [x_seq, x_asg, x_lit, sBind_ok, x_gN, x_asg1, sq_nx, x_for, x_iVal, x_var, List.set_cons_succ, List.set_cons_zero, List.getElem?_cons_zero, vOf_tup, bind_ok, itemsD, x_ofS]
  show bodyR (Out.sq (loopF (fun _ => True) (gN 2) tigB (gs.map .str) [some (.tup (gs.map .str)), some (.str []), none, none] st) _) = _
  rw [h]
  simp [x_var]
theorem err_ok {g : Clo} {d : D} {st st' : Store} (h : g [] st = .ok d st') : r__law_error g [] st = .ok (.tup [.str [116, 111, 108, 100]]) st' := by
  show bodyR (m__law_error g (envE 2 [some (.clo 0)]) st) = _
  have e0 : envE 2 [some (.clo 0)] = [some (.clo 0), none] := rfl
  have e1 : mAct 0 g aNil [some (.clo 0), none] st = .ok d st' := by
    show (Res.ok [] st).bind g = _
    rw [bind_ok, h]
  have s1 : Sz 1 = true := by decide
  rw [e0, m__law_error, x_seq]
  have e2 : sTry exm (sDrop (mAct 0 g aNil)) [("InvalidText", 1, fun er => (sRet (mTup (aCons (mLit (.str [116, 101, 120, 116])) (aCons (mFld ["InvalidText"] 1 "at" er) (aCons (mFld ["InvalidText"] 1 "why" er) aNil)))))), ("InvalidFloor", 1, fun er => (sRet (mTup (aCons (mLit (.str [102, 108, 111, 111, 114])) (aCons (mFld ["InvalidFloor"] 1 "at" er) aNil)))))] [some (.clo 0), none] st = .nx [some (.clo 0), none] st' := by
    unfold sTry
    rw [x_drop, e1]
    rfl
  rw [e2]
  simp [s1]
theorem err_er {g : Clo} {i j : Int} {st st' : Store} (h : g [] st = .er (eText i j) st') : r__law_error g [] st = .ok (.tup [.str [116, 101, 120, 116], .int i, .int j]) st' := by
  show bodyR (m__law_error g (envE 2 [some (.clo 0)]) st) = _
  have e0 : envE 2 [some (.clo 0)] = [some (.clo 0), none] := rfl
  have e1 : mAct 0 g aNil [some (.clo 0), none] st = .er (eText i j) st' := by
    show (Res.ok [] st).bind g = _
    rw [bind_ok, h]
  have s1 : Sz 3 = true := by decide
  rw [e0, m__law_error, x_seq]
  have e2 : sTry exm (sDrop (mAct 0 g aNil)) [("InvalidText", 1, fun er => (sRet (mTup (aCons (mLit (.str [116, 101, 120, 116])) (aCons (mFld ["InvalidText"] 1 "at" er) (aCons (mFld ["InvalidText"] 1 "why" er) aNil)))))), ("InvalidFloor", 1, fun er => (sRet (mTup (aCons (mLit (.str [102, 108, 111, 111, 114])) (aCons (mFld ["InvalidFloor"] 1 "at" er) aNil)))))] [some (.clo 0), none] st = .rt (.tup [.str [116, 101, 120, 116], .int i, .int j]) st' := by
    unfold sTry
    rw [x_drop, e1]
    simp [handF, exm, eText, mFld, unsetO, s1, List.lookup]
  rw [e2]
  rfl
end K01
set_option Elab.async false
set_option linter.all false
set_option autoImplicit false
set_option maxRecDepth 100000
set_option maxHeartbeats 4000000
/-! Law k01, plain: raw floors and their texts. -/
namespace K01
open Bw
/-- winds within 20 -/
def smallW (d : D) : Prop := ∃ a b : Int, d = .tup [.int a, .int b] ∧ -20 ≤ a ∧ a ≤ 20 ∧ -20 ≤ b ∧ b ≤ 20
theorem wind1 {j st : Store} (B : BxT j st) {m : Int} (h0 : 0 ≤ m) (h1 : m ≤ 20) : ∃ d st', r__law_wind [.ref 1, .int m] st = .ok d st' ∧ BxT j st' ∧ smallW d := by
  obtain ⟨v, st1, e1, B1, v1, v2⟩ := take1 B (many := 2 * m + 1) (by omega) (by omega)
  obtain ⟨u, st2, e2, B2, u1, u2⟩ := take1 B1 (many := 2 * m + 1) (by omega) (by omega)
  refine ⟨.tup [.int (v - m), .int (u - m)], st2, ?_, B2, v - m, u - m, rfl, by omega, by omega, by omega, by omega⟩
  have s2 : Sz 2 = true := by decide
  have m2 : mulOk 2 m = true := mulOk_l (by decide)
  show bodyR (m__law_wind r__law_take (envE 2 ([D.ref 1, D.int m].map some)) st) = _
  have e0 : envE 2 ([D.ref 1, D.int m].map some) = [some (.ref 1), some (.int m)] := rfl
  rw [e0]
  simp [m__law_wind, x_var, mulD, m2, e1, e2, s2]
/-- a small number told -/
def small (l : List Nat) : Prop := l.length ≤ 4 ∧ ∀ c ∈ l, okc c = true
theorem dec_small (i : Int) (h0 : 0 ≤ i) (h1 : i ≤ 20) : small (decD i) := by
  obtain ⟨n, rfl⟩ := Int.eq_ofNat_of_zero_le h0
  have hn : n < 21 := by omega
  have q : ∀ n < 21, (decD (n : Nat)).length ≤ 4 ∧ ∀ c ∈ decD (n : Nat), okc c = true := by decide +kernel
  exact q n hn
theorem str1 (i : Int) (h0 : 0 ≤ i) (h1 : i ≤ 20) (st : Store) : fStr [.int i] st = some (.str (decD i)) := by
  show (if i.natAbs.log2 < 1920 then some (D.str (decD i)) else none) = _
  rw [if_pos]
  have : i.natAbs.log2 ≤ i.natAbs := Nat.log2_le_self _
  omega
theorem number1 (i : Int) (h0 : -20 ≤ i) (h1 : i ≤ 20) (st : Store) : ∃ l, r__law_number [.int i] st = .ok (.str l) st ∧ l.length ≤ 6 ∧ ∀ c ∈ l, okc c = true := by
  show ∃ l, bodyR (m__law_number (envE 1 ([D.int i].map some)) st) = .ok (.str l) st ∧ _
  have e0 : envE 1 ([D.int i].map some) = [some (.int i)] := rfl
  rw [e0]
  by_cases hi : i < 0
  · have s1 := str1 (-i) (by omega) (by omega) st
    obtain ⟨l1, l2⟩ := dec_small (-i) (by omega) (by omega)
    have d1 : addD (.str [45, 32]) (.str (decD (-i))) = some (.str ([45, 32] ++ decD (-i))) := if_pos (Sz_of (by simp; omega))
    refine ⟨[45, 32] ++ decD (-i), ?_, by simp; omega, ?_⟩
    · simp [m__law_number, x_var, hi, fAbs, s1, d1]
    · intro c hc
      rcases List.mem_append.mp hc with h | h
      · have : c = 45 ∨ c = 32 := by simpa using h
        rcases this with rfl | rfl <;> rfl
      · exact l2 c h
  · have s1 := str1 i (by omega) (by omega) st
    obtain ⟨l1, l2⟩ := dec_small i (by omega) (by omega)
    have d1 : addD (.str []) (.str (decD i)) = some (.str ([] ++ decD i)) := if_pos (Sz_of (by simp; omega))
    refine ⟨decD i, ?_, by omega, l2⟩
    simp [m__law_number, x_var, hi, fAbs, s1, d1]
end K01
set_option Elab.async false
set_option linter.all false
set_option autoImplicit false
set_option maxRecDepth 100000
set_option maxHeartbeats 4000000
/-! Law k01, plain: raw floors. -/
namespace K01
open Bw
/-- winds within 20 behind the box -/
def Ws (ws : List D) : Prop := ∀ d ∈ ws, smallW d
noncomputable abbrev rawB : MS := (sSeq (sPar 7 8 (aCons (mOp fAdd (mOp fSub (mOp fMul (mLit (.int 2)) (mOp fSub (mVar 6) (mOp fMul (mOp fDiv (mVar 6) (mVar 2)) (mVar 2)))) (mVar 2)) (mLit (.int 1))) (aCons (mOp fAdd (mOp fSub (mOp fMul (mLit (.int 2)) (mOp fDiv (mVar 6) (mVar 2))) (mVar 3)) (mLit (.int 1))) aNil)))
    (sIf (tCmp (mOp fEq (mVar 4) (mLit (.int 0)))) (sDrop (mApp (mVar 5) (mCall (fun ds st => if ds.length = 2 then r__law_wind ds st else .no) (aCons (mVar 0) (aCons (mCall (fun ds st => if ds.length = 2 then r__law_pick ds st else .no) (aCons (mVar 0) (aCons (mLst (aCons (mLit (.int 1)) (aCons (mLit (.int 3)) (aCons (mLit (.int 20)) aNil)))) aNil))) aNil))))) (sIf (tCmp (mOp fEq (mVar 4) (mLit (.int 1)))) (sDrop (mApp (mVar 5) (mTup (aCons (mOp fAdd (mLit (.int 1)) (mCall (fun ds st => if ds.length = 2 then r__law_take ds st else .no) (aCons (mVar 0) (aCons (mLit (.int 3)) aNil)))) (aCons (mOp fSub (mCall (fun ds st => if ds.length = 2 then r__law_take ds st else .no) (aCons (mVar 0) (aCons (mLit (.int 5)) aNil))) (mLit (.int 2))) aNil))))) (sSeq (sPar 9 10 (aCons (mIf (tCmp (mOp fGt (mVar 8) (mLit (.int 0)))) (mUn (fun x _ => negD x) (mLit (.int 1))) (mLit (.int 1))) (aCons (mIf (tCmp (mOp fGt (mVar 7) (mLit (.int 0)))) (mLit (.int 1)) (mUn (fun x _ => negD x) (mLit (.int 1)))) aNil)))
    (sDrop (mApp (mVar 5) (mTup (aCons (mOp fMul (mVar 9) (mOp fAdd (mLit (.int 1)) (mCall (fun ds st => if ds.length = 2 then r__law_take ds st else .no) (aCons (mVar 0) (aCons (mOp fSub (mVar 4) (mLit (.int 1))) aNil))))) (aCons (mOp fMul (mVar 10) (mOp fAdd (mLit (.int 1)) (mCall (fun ds st => if ds.length = 2 then r__law_take ds st else .no) (aCons (mVar 0) (aCons (mOp fSub (mVar 4) (mLit (.int 1))) aNil))))) aNil)))))))))
theorem bxt_get {ws : List D} {st : Store} (B : BxT [.lst ws] st) : st[2]? = some (.lst ws) := by
  obtain ⟨cs, ds, s, x, rfl, _⟩ := B
  rfl
theorem bxt_put {ws us : List D} {st : Store} (B : BxT [.lst ws] st) : BxT [.lst us] (st.set 2 (.lst us)) := by
  obtain ⟨cs, ds, s, x, rfl, hx⟩ := B
  exact ⟨cs, ds, s, x, rfl, hx⟩
theorem app_ok {ws : List D} {d : D} {e : ME} {ρ : Env} {st st' : Store} (hv : ρ[5]? = some (some (.ref 2))) (B : BxT [.lst ws] st) (he : e ρ st = .ok d st') (B' : BxT [.lst ws] st') (hz : ws.length ≤ 100) : sDrop (mApp (mVar 5) e) ρ st = .nx ρ (st'.set 2 (.lst (ws ++ [d]))) := by
  have z : Sz (ws.length + 1) = true := Sz_of (by omega)
  simp only [x_drop, x_app, x_var, hv, vOf_ref, bind_ok, x_app1, bxt_get B, x_app2, he, bxt_get B', z, if_true, sBind_ok]
theorem raw_turn {ws : List D} {st : Store} (B : BxT [.lst ws] st) (hw : Ws ws) (hl : ws.length ≤ 100) (x1 : Option D) (w h way sq : Int) (w0 : 0 < w) (w1 : w ≤ 4) (h0 : 0 < h) (h1 : h ≤ 4) (y0 : 0 ≤ way) (y1 : way ≤ 3) (x7 x8 x9 x10 : Option D) :
    ∃ d st' x7' x8' x9' x10', rawB [some (.ref 1), x1, some (.int w), some (.int h), some (.int way), some (.ref 2), some (.int sq), x7, x8, x9, x10] st = .nx [some (.ref 1), x1, some (.int w), some (.int h), some (.int way), some (.ref 2), some (.int sq), x7', x8', x9', x10'] st' ∧ BxT [.lst (ws ++ [d])] st' ∧ smallW d := by
  have m2 : ∀ i : Int, mulOk 2 i = true := fun i => mulOk_l (by decide)
  have mw : ∀ i : Int, mulOk i w = true := fun i => mulOk_r (by omega)
  have dw : ∀ i : Int, divOk i w = true := fun i => divOk_s (by omega) (bits_lt (by omega))
  have s2 : Sz 2 = true := by decide
  have s3 : Sz 3 = true := by decide
  obtain ⟨across, up, p1⟩ : ∃ across up : Int, sPar 7 8 (aCons (mOp fAdd (mOp fSub (mOp fMul (mLit (.int 2)) (mOp fSub (mVar 6) (mOp fMul (mOp fDiv (mVar 6) (mVar 2)) (mVar 2)))) (mVar 2)) (mLit (.int 1))) (aCons (mOp fAdd (mOp fSub (mOp fMul (mLit (.int 2)) (mOp fDiv (mVar 6) (mVar 2))) (mVar 3)) (mLit (.int 1))) aNil)) [some (.ref 1), x1, some (.int w), some (.int h), some (.int way), some (.ref 2), some (.int sq), x7, x8, x9, x10] st = .nx [some (.ref 1), x1, some (.int w), some (.int h), some (.int way), some (.ref 2), some (.int sq), some (.int across), some (.int up), x9, x10] st := by
    refine ⟨2 * (sq - sq.fdiv w * w) - w + 1, 2 * sq.fdiv w - h + 1, ?_⟩
    simp [x_var, mulD, divD, m2, mw, dw]
  by_cases e0 : way = 0
  · subst e0
    obtain ⟨i, d, st1, g1, g2, B1⟩ := pick1 B [.int 1, .int 3, .int 20] (by decide) (by decide)
    obtain ⟨m, rfl, hm0, hm1⟩ : ∃ m : Int, d = .int m ∧ 0 ≤ m ∧ m ≤ 20 := by
      have := List.mem_of_getElem? g1
      simp at this
      rcases this with rfl | rfl | rfl
      · exact ⟨1, rfl, by decide, by decide⟩
      · exact ⟨3, rfl, by decide, by decide⟩
      · exact ⟨20, rfl, by decide, by decide⟩
    obtain ⟨d, st2, g3, B2, hd⟩ := wind1 B1 hm0 hm1
    refine ⟨d, st2.set 2 (.lst (ws ++ [d])), some (.int across), some (.int up), x9, x10, ?_, bxt_put B2, hd⟩
    show (sSeq _ _) _ _ = _
    rw [x_seq, p1, sq_nx, x_sif]
    have t1 : tCmp (mOp fEq (mVar 4) (mLit (.int 0))) [some (.ref 1), x1, some (.int w), some (.int h), some (.int 0), some (.ref 2), some (.int sq), some (.int across), some (.int up), x9, x10] st = .ok true st := by simp [x_var]
    rw [t1, sBind_ok, x_sifT]
    exact app_ok rfl B (by simp [x_var, s3, g2, g3]) B2 hl
  · have f0 : tCmp (mOp fEq (mVar 4) (mLit (.int 0))) [some (.ref 1), x1, some (.int w), some (.int h), some (.int way), some (.ref 2), some (.int sq), some (.int across), some (.int up), x9, x10] st = .ok false st := by simp [x_var, e0]
    by_cases e1 : way = 1
    · subst e1
      obtain ⟨v, st1, g1, B1, v0, v1⟩ := take1 B (many := 3) (by decide) (by decide)
      obtain ⟨u, st2, g2, B2, u0, u1⟩ := take1 B1 (many := 5) (by decide) (by decide)
      refine ⟨.tup [.int (1 + v), .int (u - 2)], st2.set 2 (.lst (ws ++ [.tup [.int (1 + v), .int (u - 2)]])), some (.int across), some (.int up), x9, x10, ?_, bxt_put B2, 1 + v, u - 2, rfl, by omega, by omega, by omega, by omega⟩
      show (sSeq _ _) _ _ = _
      rw [x_seq, p1, sq_nx, x_sif, f0, sBind_ok, x_sifF, x_sif]
      have t1 : tCmp (mOp fEq (mVar 4) (mLit (.int 1))) [some (.ref 1), x1, some (.int w), some (.int h), some (.int 1), some (.ref 2), some (.int sq), some (.int across), some (.int up), x9, x10] st = .ok true st := by simp [x_var]
      rw [t1, sBind_ok, x_sifT]
      exact app_ok rfl B (by simp [x_var, s2, g1, g2]) B2 hl
    · obtain ⟨v, st1, g1, B1, v0, v1⟩ := take1 B (many := way - 1) (by omega) (by omega)
      obtain ⟨u, st2, g2, B2, u0, u1⟩ := take1 B1 (many := way - 1) (by omega) (by omega)
      have f1 : tCmp (mOp fEq (mVar 4) (mLit (.int 1))) [some (.ref 1), x1, some (.int w), some (.int h), some (.int way), some (.ref 2), some (.int sq), some (.int across), some (.int up), x9, x10] st = .ok false st := by simp [x_var, e1]
      obtain ⟨r1, r2, p2, q1, q2⟩ : ∃ r1 r2 : Int, sPar 9 10 (aCons (mIf (tCmp (mOp fGt (mVar 8) (mLit (.int 0)))) (mUn (fun x _ => negD x) (mLit (.int 1))) (mLit (.int 1))) (aCons (mIf (tCmp (mOp fGt (mVar 7) (mLit (.int 0)))) (mLit (.int 1)) (mUn (fun x _ => negD x) (mLit (.int 1)))) aNil)) [some (.ref 1), x1, some (.int w), some (.int h), some (.int way), some (.ref 2), some (.int sq), some (.int across), some (.int up), x9, x10] st = .nx [some (.ref 1), x1, some (.int w), some (.int h), some (.int way), some (.ref 2), some (.int sq), some (.int across), some (.int up), some (.int r1), some (.int r2)] st ∧ (r1 = 1 ∨ r1 = -1) ∧ (r2 = 1 ∨ r2 = -1) := by
        refine ⟨if 0 < up then -1 else 1, if 0 < across then 1 else -1, ?_, by split <;> simp, by split <;> simp⟩
        by_cases a1 : 0 < up <;> by_cases a2 : 0 < across <;> simp [x_var, a1, a2, negD]
      have mr1 : ∀ i, mulOk r1 i = true := fun i => mulOk_l (by rcases q1 with rfl | rfl <;> decide)
      have mr2 : ∀ i, mulOk r2 i = true := fun i => mulOk_l (by rcases q2 with rfl | rfl <;> decide)
      refine ⟨.tup [.int (r1 * (1 + v)), .int (r2 * (1 + u))], st2.set 2 (.lst (ws ++ [.tup [.int (r1 * (1 + v)), .int (r2 * (1 + u))]])), some (.int across), some (.int up), some (.int r1), some (.int r2), ?_, bxt_put B2, r1 * (1 + v), r2 * (1 + u), rfl, ?_, ?_, ?_, ?_⟩
      · show (sSeq _ _) _ _ = _
        rw [x_seq, p1, sq_nx, x_sif, f0, sBind_ok, x_sifF, x_sif, f1, sBind_ok, x_sifF, x_seq, p2, sq_nx]
        exact app_ok rfl B (by simp [x_var, s2, g1, g2, mulD, mr1, mr2]) B2 hl
      all_goals (rcases q1 with rfl | rfl <;> rcases q2 with rfl | rfl <;> omega)
theorem raw_loop (x1 : Option D) (w h way : Int) (w0 : 0 < w) (w1 : w ≤ 4) (h0 : 0 < h) (h1 : h ≤ 4) (y0 : 0 ≤ way) (y1 : way ≤ 3) : ∀ (ds ws : List D) (st : Store) (x6 x7 x8 x9 x10 : Option D), (∀ d ∈ ds, ∃ i, d = .int i) → BxT [.lst ws] st → Ws ws → ws.length + ds.length ≤ 100 →
    ∃ us st' x6' x7' x8' x9' x10', loopF (fun _ => True) (gN 6) rawB ds [some (.ref 1), x1, some (.int w), some (.int h), some (.int way), some (.ref 2), x6, x7, x8, x9, x10] st = .nx [some (.ref 1), x1, some (.int w), some (.int h), some (.int way), some (.ref 2), x6', x7', x8', x9', x10'] st' ∧ BxT [.lst us] st' ∧ Ws us ∧ us.length = ws.length + ds.length
  | [], ws, st, x6, x7, x8, x9, x10, _, B, hw, _ => ⟨ws, st, x6, x7, x8, x9, x10, loop_nil trivial, B, hw, rfl⟩
  | d :: ds, ws, st, x6, x7, x8, x9, x10, hd, B, hw, hl => by
    rw [List.length_cons] at hl
    obtain ⟨i, rfl⟩ := hd d List.mem_cons_self
    obtain ⟨e, st1, y7, y8, y9, y10, t1, B1, he⟩ := raw_turn B hw (by omega) x1 w h way i w0 w1 h0 h1 y0 y1 x7 x8 x9 x10
    rw [loop_nx trivial (ρ' := [some (.ref 1), x1, some (.int w), some (.int h), some (.int way), some (.ref 2), some (.int i), x7, x8, x9, x10]) rfl t1]
    have hw' : Ws (ws ++ [e]) := fun y hy => by
      rcases List.mem_append.mp hy with q | q
      · exact hw y q
      · rw [List.mem_singleton.mp q]; exact he
    obtain ⟨us, st', x6', x7', x8', x9', x10', k1, k2, k3, k4⟩ := raw_loop x1 w h way w0 w1 h0 h1 y0 y1 ds (ws ++ [e]) st1 _ y7 y8 y9 y10 (fun y hy => hd y (List.mem_cons_of_mem _ hy)) B1 hw' (by simp; omega)
    exact ⟨us, st', x6', x7', x8', x9', x10', k1, k2, k3, by rw [k4]; simp; omega⟩
theorem bx_more {st : Store} (B : Bx st) (ws : List D) : BxT [.lst ws] (st ++ [.lst ws]) ∧ st.length = 2 := by
  obtain ⟨cs, ds, s, x, rfl, hx⟩ := B
  exact ⟨⟨cs, ds, s, x, rfl, hx⟩, rfl⟩
theorem bx_less {ws : List D} {st : Store} (B : BxT [.lst ws] st) : ∃ st', st = st' ++ [.lst ws] ∧ Bx st' := by
  obtain ⟨cs, ds, s, x, rfl, hx⟩ := B
  exact ⟨[.lst (ds.map .int), .lst [x, .int s]], rfl, cs, ds, s, x, rfl, hx⟩
theorem raw1 {st : Store} (B : Bx st) : ∃ (w h : Int) (ws : List D) (st' : Store), r__law_raw [.ref 1, .int 4] st = .ok (.tup [.int w, .int h, .tup ws]) (st' ++ [.lst ws]) ∧ Bx st' ∧ 0 < w ∧ w ≤ 4 ∧ 0 < h ∧ h ≤ 4 ∧ Ws ws ∧ ws.length ≤ 16 := by
  obtain ⟨v1, st1, g1, B1, a1, b1⟩ := take1 B (many := 4) (by decide) (by decide)
  obtain ⟨v2, st2, g2, B2, a2, b2⟩ := take1 B1 (many := 4) (by decide) (by decide)
  obtain ⟨v3, st3, g3, B3, a3, b3⟩ := take1 B2 (many := 4) (by decide) (by decide)
  obtain ⟨B4, l4⟩ := bx_more B3 []
  have s0 : Sz 0 = true := by decide
  have s4 : Sz 4 = true := by decide
  have s3 : Sz 3 = true := by decide
  have e0 : envE 11 ([D.ref 1, D.int 4].map some) = [some (.ref 1), some (.int 4), none, none, none, none, none, none, none, none, none] := rfl
  obtain ⟨us, st5, x6, x7, x8, x9, x10, k1, k2, k3, k4⟩ := raw_loop (some (.int 4)) (1 + v1) (1 + v2) v3 (by omega) (by omega) (by omega) (by omega) a3 (by omega) (rng 0 1 ((1 + v1) * (1 + v2)).toNat) [] (st3 ++ [.lst []]) none none none none none (fun d hd => by
    unfold rng at hd
    obtain ⟨i, _, rfl⟩ := List.mem_map.mp hd
    exact ⟨_, rfl⟩) B4 (by intro d hd; cases hd) (by
    have : (1 + v1) * (1 + v2) ≤ 16 := by
      have c1 : v1 = 0 ∨ v1 = 1 ∨ v1 = 2 ∨ v1 = 3 := by omega
      rcases c1 with rfl | rfl | rfl | rfl <;> omega
    simp [rng]
    omega)
  obtain ⟨st6, rfl, B6⟩ := bx_less k2
  have lim : (1 + v1) * (1 + v2) ≤ 16 := by
    have c1 : v1 = 0 ∨ v1 = 1 ∨ v1 = 2 ∨ v1 = 3 := by omega
    rcases c1 with rfl | rfl | rfl | rfl <;> omega
  have lim0 : 0 ≤ (1 + v1) * (1 + v2) := Int.mul_nonneg (by omega) (by omega)
  refine ⟨1 + v1, 1 + v2, us, st6, ?_, B6, by omega, by omega, by omega, by omega, k3, by rw [k4]; simp [rng]; omega⟩
  show bodyR (m__law_raw r__law_take r__law_wind r__law_pick (envE 11 ([D.ref 1, D.int 4].map some)) st) = _
  have mm : mulOk (1 + v1) (1 + v2) = true := mulOk_l (by omega)
  have rg : Rg ((1 + v1) * (1 + v2)) = true := by
    simp [Rg]
    omega
  have gl : (st6 ++ [MO.lst us])[2]? = some (.lst us) := by
    have := (bx_more B6 us).2
    rw [← this]
    simp
  rw [e0]
  unfold m__law_raw
  simp only [x_seq]
  simp [x_var, g1, g2, g3, s0, s4, l4, mulD, mm, rg]
  rw [k1]
  simp [x_var, fTup, seqD, gl, s3]
end K01
set_option Elab.async false
set_option linter.all false
set_option autoImplicit false
set_option maxRecDepth 100000
set_option maxHeartbeats 4000000
/-! Law k01, plain: a floor's text. -/
namespace K01
open Bw
def okL (n : Nat) (l : List Nat) : Prop := l.length ≤ n ∧ ∀ c ∈ l, okc c = true
theorem okL_app {a b : Nat} {l m : List Nat} (h : okL a l) (k : okL b m) : okL (a + b) (l ++ m) :=
  ⟨by rw [List.length_append]; have := h.1; have := k.1; omega, fun c hc => (List.mem_append.mp hc).elim (h.2 c) (k.2 c)⟩
theorem okL_lit (l : List Nat) (h : (l.all okc) = true) : okL l.length l := ⟨Nat.le_refl _, fun c hc => List.all_eq_true.mp h c hc⟩
/-- two texts one behind another -/
theorem cat_ok {a b : ME} {ρ : Env} {st : Store} {m n : Nat} (h : ∃ l, a ρ st = .ok (.str l) st ∧ okL m l) (k : ∃ l, b ρ st = .ok (.str l) st ∧ okL n l) (hz : m + n ≤ 16777216) : ∃ l, mOp fAdd a b ρ st = .ok (.str l) st ∧ okL (m + n) l := by
  obtain ⟨l, e1, p1⟩ := h
  obtain ⟨r, e2, p2⟩ := k
  refine ⟨l ++ r, ?_, okL_app p1 p2⟩
  have d1 : addD (.str l) (.str r) = some (.str (l ++ r)) := if_pos (Sz_of (by have := p1.1; have := p2.1; omega))
  simp [e1, e2, d1]
theorem lit_ok (l : List Nat) (ρ : Env) (st : Store) (h : (l.all okc) = true) : ∃ r, mLit (.str l) ρ st = .ok (.str r) st ∧ okL l.length r := ⟨l, rfl, okL_lit l h⟩
theorem str_ok {e : ME} {ρ : Env} {st : Store} {i : Int} (h : e ρ st = .ok (.int i) st) (h0 : 0 ≤ i) (h1 : i ≤ 20) : ∃ l, mBlt fStr (aCons e aNil) ρ st = .ok (.str l) st ∧ okL 4 l := by
  refine ⟨decD i, ?_, dec_small i h0 h1⟩
  simp [h, str1 i h0 h1]
theorem num_ok {e : ME} {ρ : Env} {st : Store} {i : Int} (h : e ρ st = .ok (.int i) st) (h0 : -20 ≤ i) (h1 : i ≤ 20) : ∃ l, mCall (fun ds st => if ds.length = 1 then r__law_number ds st else .no) (aCons e aNil) ρ st = .ok (.str l) st ∧ okL 6 l := by
  obtain ⟨l, e1, e2, e3⟩ := number1 i h0 h1 st
  exact ⟨l, by simp [h, e1], e2, e3⟩
noncomputable abbrev txtB : MS := (sIf (tCmp (mOp fNe (mTup (aCons (mVar 3) (aCons (mVar 4) aNil))) (mTup (aCons (mLit (.int 0)) (aCons (mLit (.int 0)) aNil))))) (sDrop (mApp (mVar 1) (mOp fAdd (mOp fAdd (mOp fAdd (mOp fAdd (mOp fAdd (mOp fAdd (mOp fAdd (mLit (.str [97, 116, 32])) (mBlt fStr (aCons (mOp fSub (mVar 2) (mOp fMul (mOp fDiv (mVar 2) (mOp idxD (mVar 0) (mLit (.int 0)))) (mOp idxD (mVar 0) (mLit (.int 0))))) aNil))) (mLit (.str [32]))) (mBlt fStr (aCons (mOp fDiv (mVar 2) (mOp idxD (mVar 0) (mLit (.int 0)))) aNil))) (mLit (.str [32, 119, 105, 110, 100, 32]))) (mCall (fun ds st => if ds.length = 1 then r__law_number ds st else .no) (aCons (mVar 3) aNil))) (mLit (.str [32]))) (mCall (fun ds st => if ds.length = 1 then r__law_number ds st else .no) (aCons (mVar 4) aNil))))) sNext)
def Rows (rs : List D) : Prop := ∀ d ∈ rs, ∃ l, d = .str l ∧ okL 60 l
theorem okL_le {m n : Nat} {l : List Nat} (h : okL m l) (k : m ≤ n) : okL n l := ⟨Nat.le_trans h.1 k, h.2⟩
theorem app_row {rs : List D} {d : D} {e : ME} {ρ : Env} {st : Store} (hv : ρ[1]? = some (some (.ref 2))) (hg : st[2]? = some (.lst rs)) (he : e ρ st = .ok d st) (hz : rs.length ≤ 100) : sDrop (mApp (mVar 1) e) ρ st = .nx ρ (st.set 2 (.lst (rs ++ [d]))) := by
  have z : Sz (rs.length + 1) = true := Sz_of (by omega)
  simp only [x_drop, x_app, x_var, hv, vOf_ref, bind_ok, x_app1, hg, x_app2, he, z, if_true, sBind_ok]
theorem txt_turn {rs : List D} {st : Store} (hg : st[2]? = some (.lst rs)) (hl : rs.length ≤ 100) (hr : Rows rs) (w h : Int) (ws : List D) (w0 : 0 < w) (w1 : w ≤ 4) (sq : Int) (s0 : 0 ≤ sq) (s1 : sq ≤ 16) (a b : Int) (a0 : -20 ≤ a) (a1 : a ≤ 20) (b0 : -20 ≤ b) (b1 : b ≤ 20) (x5 : Option D) :
    ∃ us, txtB [some (.tup [.int w, .int h, .tup ws]), some (.ref 2), some (.int sq), some (.int a), some (.int b), x5] st = .nx [some (.tup [.int w, .int h, .tup ws]), some (.ref 2), some (.int sq), some (.int a), some (.int b), x5] (st.set 2 (.lst us)) ∧ Rows us ∧ us.length ≤ rs.length + 1 := by
  have s2 : Sz 2 = true := by decide
  have mw : ∀ i : Int, mulOk i w = true := fun i => mulOk_r (by omega)
  have dw : divOk sq w = true := divOk_s (by omega) (bits_lt (by omega))
  have i0 : idxD (.tup [.int w, .int h, .tup ws]) (.int 0) st = some (.int w) := rfl
  have q0 : 0 ≤ sq.fdiv w := Int.fdiv_nonneg s0 (by omega)
  have q1 : sq.fdiv w ≤ 16 := by
    have := Int.mul_fdiv_add_fmod sq w
    have r := fmod_range (i := sq) w0
    have : w * sq.fdiv w ≤ 16 := by omega
    have h2 : 1 * sq.fdiv w ≤ w * sq.fdiv w := Int.mul_le_mul_of_nonneg_right (by omega) q0
    omega
  have rm : sq - sq.fdiv w * w = sq.fmod w := by
    have := Int.mul_fdiv_add_fmod sq w
    rw [Int.mul_comm (sq.fdiv w) w]
    omega
  have r := fmod_range (i := sq) w0
  obtain ⟨k, hk⟩ : ∃ k, tCmp (mOp fNe (mTup (aCons (mVar 3) (aCons (mVar 4) aNil))) (mTup (aCons (mLit (.int 0)) (aCons (mLit (.int 0)) aNil)))) [some (.tup [.int w, .int h, .tup ws]), some (.ref 2), some (.int sq), some (.int a), some (.int b), x5] st = .ok k st := by
    refine ⟨!(eqD (.tup [.int a, .int b]) (.tup [.int 0, .int 0])), ?_⟩
    have ev : eqv st (.tup [.int a, .int b]) (.tup [.int 0, .int 0]) = some (eqD (.tup [.int a, .int b]) (.tup [.int 0, .int 0])) := by simp [eqv, flat2, rd, shp, shps]
    simp [x_var, s2, ev]
  show ∃ us, (sIf _ _ _ _ _) = _ ∧ _
  rw [x_sif, hk, sBind_ok]
  cases k with
  | false =>
    refine ⟨rs, ?_, hr, by omega⟩
    rw [x_sifF]
    have : st.set 2 (.lst rs) = st := List.ext_getElem? fun n => by
      by_cases hn : 2 = n
      · subst hn
        have hlt := (List.getElem?_eq_some_iff.mp hg).1
        rw [List.getElem?_set_self hlt, hg]
      · rw [List.getElem?_set_ne hn]
    rw [this]
    rfl
  | true =>
    rw [x_sifT]
    obtain ⟨l, e, p⟩ := cat_ok (cat_ok (cat_ok (cat_ok (cat_ok (cat_ok (cat_ok (lit_ok [97, 116, 32] [some (.tup [.int w, .int h, .tup ws]), some (.ref 2), some (.int sq), some (.int a), some (.int b), x5] st rfl)
      (str_ok (e := mOp fSub (mVar 2) (mOp fMul (mOp fDiv (mVar 2) (mOp idxD (mVar 0) (mLit (.int 0)))) (mOp idxD (mVar 0) (mLit (.int 0))))) (i := sq - sq.fdiv w * w) (by simp [x_var, i0, divD, dw, mulD, mw]) (by omega) (by omega)) (by decide))
      (lit_ok [32] _ _ rfl) (by decide)) (str_ok (e := mOp fDiv (mVar 2) (mOp idxD (mVar 0) (mLit (.int 0)))) (i := sq.fdiv w) (by simp [x_var, i0, divD, dw]) q0 (by omega)) (by decide))
      (lit_ok [32, 119, 105, 110, 100, 32] _ _ rfl) (by decide)) (num_ok (e := mVar 3) (i := a) (by simp [x_var]) a0 a1) (by decide)) (lit_ok [32] _ _ rfl) (by decide)) (num_ok (e := mVar 4) (i := b) (by simp [x_var]) b0 b1) (by decide)
    refine ⟨rs ++ [.str l], app_row rfl hg e hl, ?_, by simp⟩
    intro d hd
    rcases List.mem_append.mp hd with q | q
    · exact hr d q
    · rw [List.mem_singleton.mp q]
      exact ⟨l, rfl, okL_le p (by decide)⟩
end K01
set_option Elab.async false
set_option linter.all false
set_option autoImplicit false
set_option maxRecDepth 100000
set_option maxHeartbeats 4000000
/-! Law k01, plain: a floor's text, whole. -/
namespace K01
open Bw
theorem txt_loop (w h : Int) (ws : List D) (w0 : 0 < w) (w1 : w ≤ 4) : ∀ (vs : List D) (k : Nat) (rs : List D) (st : Store) (x2 x3 x4 x5 : Option D), Ws vs → k + vs.length ≤ 16 → rs.length + vs.length ≤ 100 → st[2]? = some (.lst rs) → Rows rs →
    ∃ us x2' x3' x4', loopF (fun _ => True) (gT [gN 2, gT [gN 3, gN 4]]) txtB (numb k vs) [some (.tup [.int w, .int h, .tup ws]), some (.ref 2), x2, x3, x4, x5] st = .nx [some (.tup [.int w, .int h, .tup ws]), some (.ref 2), x2', x3', x4', x5] (st.set 2 (.lst us)) ∧ Rows us ∧ us.length ≤ rs.length + vs.length
  | [], k, rs, st, x2, x3, x4, x5, _, _, _, hg, hr => by
    refine ⟨rs, x2, x3, x4, ?_, hr, by simp⟩
    have : st.set 2 (.lst rs) = st := List.ext_getElem? fun n => by
      by_cases hn : 2 = n
      · subst hn
        have hlt := (List.getElem?_eq_some_iff.mp hg).1
        rw [List.getElem?_set_self hlt, hg]
      · rw [List.getElem?_set_ne hn]
    rw [this]
    exact loop_nil trivial
  | v :: vs, k, rs, st, x2, x3, x4, x5, hw, hk, hl, hg, hr => by
    rw [List.length_cons] at hk hl
    obtain ⟨a, b, rfl, a0, a1, b0, b1⟩ := hw v List.mem_cons_self
    obtain ⟨us, t1, hr1, hl1⟩ := txt_turn hg (by omega) hr w h ws w0 w1 (k : Int) (by omega) (by omega) a b a0 a1 b0 b1 x5
    have hlt := (List.getElem?_eq_some_iff.mp hg).1
    have g2 : (st.set 2 (MO.lst us))[2]? = some (.lst us) := List.getElem?_set_self hlt
    rw [numb, loop_nx trivial (ρ' := [some (.tup [.int w, .int h, .tup ws]), some (.ref 2), some (.int (k : Int)), some (.int a), some (.int b), x5]) rfl t1]
    obtain ⟨us2, y2, y3, y4, q1, q2, q3⟩ := txt_loop w h ws w0 w1 vs (k + 1) us (st.set 2 (.lst us)) _ _ _ x5 (fun d hd => hw d (List.mem_cons_of_mem _ hd)) (by omega) (by omega) g2 hr1
    exact ⟨us2, y2, y3, y4, by rw [q1, List.set_set], q2, by rw [List.length_cons]; omega⟩
theorem strs_rows {rs : List D} (h : Rows rs) : ∃ ls : List (List Nat), rs = ls.map .str ∧ ∀ l ∈ ls, okL 60 l := by
  induction rs with
  | nil => exact ⟨[], rfl, by simp⟩
  | cons d rs ih =>
    obtain ⟨l, rfl, hl⟩ := h d List.mem_cons_self
    obtain ⟨ls, rfl, hs⟩ := ih fun x hx => h x (List.mem_cons_of_mem _ hx)
    exact ⟨l :: ls, rfl, fun x hx => by
      rcases List.mem_cons.mp hx with rfl | hx
      · exact hl
      · exact hs x hx⟩
theorem strsD_map : ∀ ls : List (List Nat), strsD (ls.map .str) = some ls
  | [] => rfl
  | l :: ls => by rw [List.map_cons, strsD, strsD_map ls]; rfl
theorem joinD_nil : ∀ ls : List (List Nat), joinD [] ls = ls.flatten
  | [] => rfl
  | [x] => by simp [joinD]
  | x :: y :: r => by rw [joinD, joinD_nil (y :: r)]; simp
end K01
set_option Elab.async false
set_option linter.all false
set_option autoImplicit false
set_option maxRecDepth 100000
set_option maxHeartbeats 4000000
/-! Law k01, plain: a floor's text, told. -/
namespace K01
open Bw
def nl : D → D
  | .str l => .str (l ++ [10])
  | d => d
theorem flat_ok : ∀ (ls : List (List Nat)), (∀ l ∈ ls, okL 60 l) → okL (61 * ls.length) ((ls.map fun l => l ++ [10]).flatten) ∧ (((ls.map fun l => l ++ [10]).map (·.length)).sum ≤ 61 * ls.length)
  | [], _ => ⟨⟨by simp, by simp⟩, by simp⟩
  | l :: ls, h => by
    obtain ⟨h1, h2⟩ := flat_ok ls fun x hx => h x (List.mem_cons_of_mem _ hx)
    have hl := h l List.mem_cons_self
    have hn : okL (60 + 1) (l ++ [10]) := okL_app hl (okL_lit [10] rfl)
    refine ⟨?_, ?_⟩
    · have := okL_app hn h1
      refine ⟨?_, ?_⟩
      · have q := this.1
        simp only [List.map_cons, List.flatten_cons, List.length_cons] at q ⊢
        omega
      · simpa using this.2
    · have q := hn.1
      simp only [List.map_cons, List.sum_cons, List.length_cons] at h2 ⊢
      omega
theorem text1 {st : Store} (B : Bx st) {w h : Int} {ws : List D} (w0 : 0 < w) (w1 : w ≤ 4) (h0 : 0 < h) (h1 : h ≤ 4) (hw : Ws ws) (hl : ws.length ≤ 16) : ∃ t us, r__law_text [.tup [.int w, .int h, .tup ws]] st = .ok (.str t) (st ++ [.lst us]) ∧ okL 2000 t := by
  have l2 := B.low.2
  have e0 : envE 6 ([D.tup [.int w, .int h, .tup ws]].map some) = [some (.tup [.int w, .int h, .tup ws]), none, none, none, none, none] := rfl
  have s1 : Sz 1 = true := by decide
  have i0 : idxD (.tup [.int w, .int h, .tup ws]) (.int 0) st = some (.int w) := rfl
  have i1 : idxD (.tup [.int w, .int h, .tup ws]) (.int 1) st = some (.int h) := rfl
  obtain ⟨f, ef, pf⟩ := cat_ok (cat_ok (cat_ok (lit_ok [102, 108, 111, 111, 114, 32] [some (.tup [.int w, .int h, .tup ws]), none, none, none, none, none] st rfl) (str_ok (e := mOp idxD (mVar 0) (mLit (.int 0))) (i := w) (by simp [x_var, i0]) (by omega) (by omega)) (by decide)) (lit_ok [32, 98, 121, 32] _ _ rfl) (by decide)) (str_ok (e := mOp idxD (mVar 0) (mLit (.int 1))) (i := h) (by simp [x_var, i1]) (by omega) (by omega)) (by decide)
  have g2 : (st ++ [MO.lst [.str f]])[2]? = some (.lst [.str f]) := by rw [← l2]; simp
  obtain ⟨us, x2, x3, x4, q1, q2, q3⟩ := txt_loop w h ws w0 w1 ws 0 [.str f] (st ++ [.lst [.str f]]) none none none none hw (by omega) (by simp; omega) g2 (by
    intro d hd
    rw [List.mem_singleton.mp hd]
    exact ⟨f, rfl, okL_le pf (by decide)⟩)
  obtain ⟨ls, rfl, pl⟩ := strs_rows q2
  have se : (st ++ [MO.lst [.str f]]).set 2 (.lst (ls.map .str)) = st ++ [.lst (ls.map .str)] := by rw [← l2]; simp
  rw [se] at q1
  have g3 : (st ++ [MO.lst (ls.map D.str)])[2]? = some (.lst (ls.map .str)) := by rw [← l2]; simp
  have lm : ls.length ≤ 17 := by simp at q3; omega
  obtain ⟨fl1, fl2⟩ := flat_ok ls pl
  have lc := lc_map (chk := fun s => s[2]? = some (.lst (ls.map .str))) (g := gN 5) (e := mOp fAdd (mVar 5) (mLit (.str [10]))) (ρ := [some (.tup [.int w, .int h, .tup ws]), some (.ref 2), x2, x3, x4, none]) (st := st ++ [.lst (ls.map .str)]) g3 nl (ls.map .str) [] (by
    intro d hd
    obtain ⟨l, hl, rfl⟩ := List.mem_map.mp hd
    have a1 : addD (.str l) (.str [10]) = some (.str (l ++ [10])) := if_pos (Sz_of (by have := (pl l hl).1; simp; omega))
    exact ⟨_, rfl, by simp [x_var, a1, nl]⟩) (by simp; omega)
  rw [List.nil_append, List.map_map] at lc
  have em : (nl ∘ D.str) = fun l => D.str (l ++ [10]) := rfl
  rw [em] at lc
  have em2 : ls.map (fun l => D.str (l ++ [10])) = (ls.map fun l => l ++ [10]).map D.str := by rw [List.map_map]; rfl
  rw [em2] at lc
  have jn : ∀ s : Store, fJoin [] [.lst ((ls.map fun l => l ++ [10]).map D.str)] s = some (.str (ls.map fun l => l ++ [10]).flatten) := by
    intro s
    have b1 : seqD s (.lst ((ls.map fun l => l ++ [10]).map D.str)) = some ((ls.map fun l => l ++ [10]).map D.str) := rfl
    unfold fJoin
    simp only [b1, Option.bind_some, strsD_map]
    rw [if_pos, joinD_nil]
    refine decide_eq_true ?_
    have : (List.map (fun x : List Nat => x.length) (ls.map fun l => l ++ [10])).sum ≤ 61 * ls.length := fl2
    simp only [List.length_nil, Nat.mul_zero, Nat.add_zero]
    omega
  refine ⟨(ls.map fun l => l ++ [10]).flatten, ls.map .str, ?_, okL_le fl1 (by omega)⟩
  show bodyR (m__law_text r__law_number (envE 6 ([D.tup [.int w, .int h, .tup ws]].map some)) st) = _
  rw [e0]
  unfold m__law_text
  have i2 : ∀ s, idxD (.tup [.int w, .int h, .tup ws]) (.int 2) s = some (.tup ws) := fun s => rfl
  have wp : wipeE [some (.tup [.int w, .int h, .tup ws]), some (.ref 2), x2, x3, x4, none] [5] = [some (.tup [.int w, .int h, .tup ws]), some (.ref 2), x2, x3, x4, none] := rfl
  have it : itemsD (st ++ [MO.lst (ls.map D.str)]) (.ref 2) = some ⟨ls.map .str, fun s => s[2]? = some (.lst (ls.map .str))⟩ := by
    unfold itemsD
    simp only [g3]
  simp only [x_seq, x_asg, x_new, x_cons, ef, bind_ok, x_cons1, x_nil, x_cons2, List.length_cons, List.length_nil, s1, if_true, sBind_ok, x_gN, x_asg1, sq_nx, l2, List.set_cons_succ, List.set_cons_zero, x_for, x_iEnum, x_op, x_var, List.getElem?_cons_zero, vOf_tup, x_op1, x_lit, x_op2, i2, x_ofS, itemsD, Option.map_some, numbI]
  show bodyR (Out.sq (loopF (fun _ => True) (gT [gN 2, gT [gN 3, gN 4]]) txtB (numb 0 ws) [some (.tup [.int w, .int h, .tup ws]), some (.ref 2), none, none, none, none] (st ++ [.lst [.str f]])) _) = _
  rw [q1]
  simp only [sq_nx, x_ret, x_str1, x_lit, bind_ok, x_str11, x_cons, x_lc, x_iVal, x_var, List.getElem?_cons_zero, List.getElem?_cons_succ, vOf_ref, it, x_ofS, wp, lc, x_lc1, x_cons1, x_nil, x_cons2, jn, sBind_ok, bodyR_rt]
end K01
set_option Elab.async false
set_option linter.all false
set_option autoImplicit false
set_option maxRecDepth 100000
set_option maxHeartbeats 4000000
/-! Law k01: its pieces (printed by pieces01.py), and facts of groups and sizes. -/
namespace K01
open Bw
noncomputable def w0 : MS := (sAsg (mCall (fun ds st => if ds.length = 1 then r__law_box ds st else .no) (aCons (mVar 0) aNil)) (gN 1))
noncomputable def w1_0 : MS := (sAsg (mCall (fun ds st => if ds.length = 1 then p__law_text ds st else .no) (aCons (mCall (fun ds st => if ds.length = 2 then p__law_raw ds st else .no) (aCons (mVar 1) (aCons (mLit (.int 4)) aNil))) aNil)) (gN 3))
noncomputable def w1_1 : MS := (sAsg (mCall (fun ds st => if ds.length = 1 then r__law_groups ds st else .no) (aCons (mVar 3) aNil)) (gN 4))
noncomputable def w1_2 : MS := (sIf (tNot (tVal (mCall (fun ds st => if ds.length = 2 then (r__law_is 8) ds st else .no) (aCons (mTup (aCons (mCall (fun ds st => if ds.length = 1 then p_cut_groups ds st else .no) (aCons (mVar 3) aNil)) (aCons (fun ρ st => ((mCall (fun ds st => if ds.length = 1 then r__law_tight ds st else .no) (aCons (mVar 4) aNil)) ρ st).bind fun y st => p_cut_groups [y] st) aNil))) (aCons (mTup (aCons (mVar 4) (aCons (mVar 4) aNil))) aNil))))) (sRet (mLit (.bl false))) sNext)
noncomputable def w1_3 : MS := (sAsg (mStr1 fJoin (mLit (.str [])) (aCons (mLc [6] (iVal (mVar 4)) (gN 6) tYesM (mOp fAdd (mVar 6) (mCall (fun ds st => if ds.length = 2 then r__law_pick ds st else .no) (aCons (mVar 1) (aCons (mLst (aCons (mLit (.str [32])) (aCons (mLit (.str [10])) (aCons (mLit (.str [32, 32])) (aCons (mLit (.str [32, 10, 32])) aNil))))) aNil))))) aNil)) (gN 5))
noncomputable def w1_4 : MS := (sIf (tNot (tVal (mCall (fun ds st => if ds.length = 2 then (r__law_is 8) ds st else .no) (aCons (mTup (aCons (mCall (fun ds st => if ds.length = 1 then p_cut_groups ds st else .no) (aCons (mVar 5) aNil)) (aCons (mCall (fun ds st => if ds.length = 1 then p_cut_groups ds st else .no) (aCons (mOp fAdd (mLit (.str [32])) (mVar 5)) aNil)) aNil))) (aCons (mTup (aCons (mVar 4) (aCons (mVar 4) aNil))) aNil))))) (sRet (mLit (.bl false))) sNext)
noncomputable def w1_5_0 : MS := (sAsg (mStr1 fJoin (mLit (.str [])) (aCons (mLc [9] (iRng1 (aCons (mCall (fun ds st => if ds.length = 2 then r__law_take ds st else .no) (aCons (mVar 1) (aCons (mLit (.int 24)) aNil))) aNil)) (gN 9) tYesM (mCall (fun ds st => if ds.length = 2 then r__law_pick ds st else .no) (aCons (mVar 1) (aCons (mLst (aCons (mLit (.str [97, 116])) (aCons (mLit (.str [55])) (aCons (mLit (.str [45])) (aCons (mLit (.str [120])) (aCons (mLit (.str [48])) (aCons (mLit (.str [32])) (aCons (mLit (.str [10])) (aCons (mLit (.str [98, 121])) aNil))))))))) aNil)))) aNil)) (gN 8))
noncomputable def w1_5_1 : MS := (sIf (tNot (tVal (mCall (fun ds st => if ds.length = 2 then (r__law_is 8) ds st else .no) (aCons (mCall (fun ds st => if ds.length = 1 then p_cut_groups ds st else .no) (aCons (mVar 8) aNil)) (aCons (mCall (fun ds st => if ds.length = 1 then r__law_groups ds st else .no) (aCons (mVar 8) aNil)) aNil))))) (sRet (mLit (.bl false))) sNext)
noncomputable def w1_5_2 : MS := (sAsg (mCall (fun ds st => if ds.length = 2 then r__law_pick ds st else .no) (aCons (mVar 1) (aCons (mLst (aCons (mLit (.str [65])) (aCons (mLit (.str [46])) (aCons (mLit (.str [44])) (aCons (mLit (.str [40])) (aCons (mLit (.str [9])) (aCons (mLit (.str [95])) (aCons (mLit (.str [43])) (aCons (mLit (.str [47])) (aCons (mLit (.str [42])) aNil)))))))))) aNil))) (gN 10))
noncomputable def w1_5_3 : MS := (sAsg (mCall (fun ds st => if ds.length = 2 then r__law_take ds st else .no) (aCons (mVar 1) (aCons (mOp fAdd (mBlt fLen (aCons (mVar 8) aNil)) (mLit (.int 1))) aNil))) (gN 11))
noncomputable def w1_5_4 : MS := (sIf (tNot (tVal (mCall (fun ds st => if ds.length = 2 then (r__law_is 8) ds st else .no) (aCons (mLam (fun gc ds st => if ds.length + 1 = 1 then r__law_error gc ds st else .no) false 0 [false, false, false, false, false, false, false, false, true, false, true, true, false, false, false, false] (mCall (fun ds st => if ds.length = 1 then p_cut_groups ds st else .no) (aCons (mOp fAdd (mOp fAdd (mSli (mVar 8) oNone (oSome (mVar 11))) (mVar 10)) (mSli (mVar 8) (oSome (mVar 11)) oNone)) aNil)) aNil) (aCons (mTup (aCons (mLit (.str [116, 101, 120, 116])) (aCons (mVar 11) (aCons (mLit (.int 1)) aNil)))) aNil))))) (sRet (mLit (.bl false))) sNext)
noncomputable def w1_5B : MS := (sSeq w1_5_0 (sSeq w1_5_1 (sSeq w1_5_2 (sSeq w1_5_3 w1_5_4))))
noncomputable def w1_5 : MS := (sFor (iRng1 (aCons (mLit (.int 6)) aNil)) (gN 7) w1_5B)
noncomputable def w1B : MS := (sSeq w1_0 (sSeq w1_1 (sSeq w1_2 (sSeq w1_3 (sSeq w1_4 w1_5)))))
noncomputable def w1 : MS := (sFor (iRng1 (aCons (mLit (.int 5)) aNil)) (gN 2) w1B)
noncomputable def w2_0_0 : MS := (sIf (tNot (tVal (mCall (fun ds st => if ds.length = 2 then (r__law_is 8) ds st else .no) (aCons (mLam (fun gc ds st => if ds.length + 1 = 1 then r__law_error gc ds st else .no) false 0 [false, false, false, false, false, false, false, false, false, false, false, false, true, true, false, false] (mCall (fun ds st => if ds.length = 1 then p_cut_groups ds st else .no) (aCons (mOp fMul (mVar 12) (mVar 13)) aNil)) aNil) (aCons (mVar 14) aNil))))) (sRet (mLit (.bl false))) sNext)
noncomputable def w2_0B : MS := w2_0_0
noncomputable def w2_0 : MS := (sFor (iVal (mLst (aCons (mTup (aCons (mLit (.int 4000)) (aCons (mTup (aCons (mLit (.str [116, 111, 108, 100])) aNil)) aNil))) (aCons (mTup (aCons (mLit (.int 4001)) (aCons (mTup (aCons (mLit (.str [116, 101, 120, 116])) (aCons (mUn (fun x _ => negD x) (mLit (.int 1))) (aCons (mLit (.int 2)) aNil)))) aNil))) aNil)))) (gT [(gN 13), (gN 14)]) w2_0B)
noncomputable def w2B : MS := w2_0
noncomputable def w2 : MS := (sFor (iVal (mLst (aCons (mLit (.str [45])) (aCons (mLit (.str [55, 32])) (aCons (mLit (.str [97, 98, 32])) aNil))))) (gN 12) w2B)
noncomputable def w3_0 : MS := (sIf (tOr (tNot (tVal (mCall (fun ds st => if ds.length = 2 then (r__law_is 8) ds st else .no) (aCons (mLam (fun gc ds st => if ds.length + 1 = 1 then r__law_error gc ds st else .no) false 0 [false, false, false, false, false, false, false, false, false, false, false, false, false, false, false, true] (mCall (fun ds st => if ds.length = 1 then p_cut_groups ds st else .no) (aCons (mOp fMul (mLit (.str [122])) (mVar 15)) aNil)) aNil) (aCons (mVar 14) aNil))))) (tNot (tVal (mCall (fun ds st => if ds.length = 2 then (r__law_is 8) ds st else .no) (aCons (mLam (fun gc ds st => if ds.length + 1 = 1 then r__law_error gc ds st else .no) true 0 [false, false, false, false, false, false, false, false, false, false, false, false, false, false, false, true] (mCall (fun ds st => if ds.length = 1 then p_cut_groups ds st else .no) (aCons (mOp fAdd (mLit (.str [45])) (mOp fMul (mLit (.str [46])) (mOp fSub (mVar 16) (mLit (.int 1))))) aNil)) aNil) (aCons (mIf (tCmp (mOp fEq (mVar 14) (mTup (aCons (mLit (.str [116, 111, 108, 100])) aNil)))) (mTup (aCons (mLit (.str [116, 101, 120, 116])) (aCons (mLit (.int 1)) (aCons (mLit (.int 1)) aNil)))) (mVar 14)) aNil)))))) (sRet (mLit (.bl false))) sNext)
noncomputable def w3B : MS := w3_0
noncomputable def w3 : MS := (sFor (iVal (mLst (aCons (mTup (aCons (mLit (.int 60000)) (aCons (mTup (aCons (mLit (.str [116, 111, 108, 100])) aNil)) aNil))) (aCons (mTup (aCons (mLit (.int 60001)) (aCons (mTup (aCons (mLit (.str [116, 101, 120, 116])) (aCons (mUn (fun x _ => negD x) (mLit (.int 1))) (aCons (mLit (.int 0)) aNil)))) aNil))) aNil)))) (gT [(gN 15), (gN 14)]) w3B)
noncomputable def w4 : MS := (sIf (tNot (tVal (mLam (fun gc ds st => if ds.length + 1 = 3 then r__law_all gc ds st else .no) false 1 [false, false, false, false, false, false, false, false, false, false, false, false, false, false, false, false] (mCall (fun ds st => if ds.length = 1 then p_cut_groups ds st else .no) (aCons (mVar 0) aNil)) (aCons (mLst (aCons (mLit .non) (aCons (mLit (.int 0)) (aCons (mLit (.bl true)) (aCons (mLst (aCons (mLit (.str [102, 108, 111, 111, 114])) aNil)) (aCons (mTup (aCons (mLit (.str [45])) aNil)) aNil)))))) (aCons (mTup (aCons (mLit (.str [116, 101, 120, 116])) (aCons (mUn (fun x _ => negD x) (mLit (.int 1))) (aCons (mLit (.int 0)) aNil)))) aNil))))) (sRet (mLit (.bl false))) sNext)
noncomputable def w5 : MS := (sRet (mCall (fun ds st => if ds.length = 2 then (r__law_is 8) ds st else .no) (aCons (mTup (aCons (mCall (fun ds st => if ds.length = 1 then p_cut_groups ds st else .no) (aCons (mLit (.str [])) aNil)) (aCons (mLit k_READINGS) aNil))) (aCons (mTup (aCons (mTup aNil) (aCons (mTup (aCons (mLit (.str [110, 111, 32, 116, 101, 120, 116])) (aCons (mLit (.str [110, 111, 32, 115, 117, 99, 104, 32, 115, 105, 103, 110])) (aCons (mLit (.str [116, 111, 111, 32, 109, 97, 110, 121, 32, 103, 114, 111, 117, 112, 115])) (aCons (mLit (.str [116, 111, 111, 32, 108, 111, 110, 103])) (aCons (mLit (.str [110, 111, 116, 32, 116, 104, 105, 115, 32, 104, 101, 114, 101])) aNil)))))) aNil))) aNil))))
theorem w_all (ds : List D) (st : Store) : r_law ds st = bodyR ((sSeq w0 (sSeq w1 (sSeq w2 (sSeq w3 (sSeq w4 w5))))) (envE 16 (ds.map some)) st) := rfl
theorem good_ok {g : List Nat} (h : good g) : ∀ c ∈ g, okc c = true ∧ c < 1114112 := by
  intro c hc
  rcases h with rfl | ⟨k, a, r, hk, rfl, hg⟩
  · rw [List.mem_singleton.mp hc]; decide
  · have h1 := hg c hc
    refine ⟨by simp [okc, h1, hk], ?_⟩
    rw [← h1] at hk
    unfold kd at hk
    split at hk
    · omega
    · split at hk
      · omega
      · exact absurd rfl hk
def sumL (gs : List (List Nat)) : Nat := (gs.map fun g : List Nat => g.length).sum
theorem sumL_cons (g : List Nat) (gs : List (List Nat)) : sumL (g :: gs) = g.length + sumL gs := by simp [sumL]
theorem sumL_mem {g : List Nat} : ∀ {gs : List (List Nat)}, g ∈ gs → g.length ≤ sumL gs
  | x :: gs, h => by
    rw [sumL_cons]
    rcases List.mem_cons.mp h with rfl | h
    · omega
    · have := sumL_mem h; omega
theorem gs_sum {t : List Nat} {gs : List (List Nat)} (h : Gs t gs) : sumL gs ≤ t.length := by
  induction h with
  | nil => simp [sumL]
  | gap _ _ ih => simp; omega
  | bar _ ih => rw [sumL_cons]; simp; omega
  | run _ _ _ _ ih => rw [sumL_cons]; simp; omega
theorem tgt_len : ∀ (gs : List (List Nat)) (p : List Nat), (tgt p gs).length ≤ sumL gs + gs.length
  | [], p => by simp [tgt]
  | g :: gs, p => by
    have := tgt_len gs g
    rw [tgt, sumL_cons]
    simp only [List.length_append, List.length_cons]
    split <;> simp <;> omega
theorem tgt_okc : ∀ (gs : List (List Nat)) (p : List Nat), (∀ g ∈ gs, good g) → ∀ c ∈ tgt p gs, okc c = true
  | [], p, _, c, hc => by simp [tgt] at hc
  | g :: gs, p, h, c, hc => by
    rw [tgt] at hc
    rcases List.mem_append.mp hc with hc | hc
    · rcases List.mem_append.mp hc with hc | hc
      · split at hc
        · rw [List.mem_singleton.mp hc]; decide
        · cases hc
      · exact (good_ok (h g List.mem_cons_self) c hc).1
    · exact tgt_okc gs g (fun x hx => h x (List.mem_cons_of_mem _ hx)) c hc
theorem isPs_strs (k : Nat) : ∀ gs : List (List Nat), isPs (k + 1) (gs.map .str) = true
  | [] => by simp [isPs]
  | g :: gs => by simp [isPs, isP, isPs_strs k gs]
theorem is_same {d : D} (st : Store) (h : isP 8 d = true) : r__law_is 8 [d, d] st = .ok (.bl true) st := by rw [is1]; exact is_refl 8 d st h
/-! ### what is laid on the way is forgotten -/
theorem p_cut_ok {st : Store} (B : Bx st) {t : List Nat} {gs : List (List Nat)} (h : Gs t gs) (ho : ∀ c ∈ t, okc c = true) (hl : t.length ≤ 60000) (hg : gs.length ≤ 4000) : p_cut_groups [.str t] st = .ok (.tup (gs.map .str)) st :=
  forget_ok (j := [.lst (gs.map .str)]) (by rw [cut_ok st h ho hl, if_pos hg]) rfl B.low.1 (by rw [lowD]; exact lowDs_strs _ _)
theorem p_cut_er {st x : Store} (B : Bx st) {ds : List D} {i j : Int} (h : r_cut_groups ds st = .er (eText i j) (st ++ x)) : p_cut_groups ds st = .er (eText i j) st := forget_er h rfl B.low.1 rfl
theorem cut_bad {p r : List Nat} {c : Nat} (st : Store) (hc : okc c = false) (ho : ∀ c ∈ p, okc c = true) (hl : (p ++ c :: r).length ≤ 60000) : r_cut_groups [.str (p ++ c :: r)] st = .er (eText p.length 1) st := by
  have hz : Sz (p ++ c :: r).length = true := Sz_of (by omega)
  obtain ⟨ρ, e1⟩ := chk_loop_bad (some (.str (p ++ c :: r))) none none st c r hc p 0 none none ho
  have hn : ¬ (60000 : Int) < (p ++ c :: r).length := by omega
  have lf := len_str hz st
  have it : itemsD st (.str (p ++ c :: r)) = some (still ((p ++ c :: r).map fun a => .str [a])) := rfl
  rw [Nat.zero_add] at e1
  generalize p ++ c :: r = t at *
  show bodyR (m_cut_groups r_group_end (envE 5 ([D.str t].map some)) st) = _
  rw [cut_env]
  unfold m_cut_groups
  simp only [x_seq]
  simp [x_var, fIsi, tyD, truD, lf, hn, itemsD, numbI, e1, eText]
theorem p_cut_bad {st : Store} (B : Bx st) {p r : List Nat} {c : Nat} (hc : okc c = false) (ho : ∀ c ∈ p, okc c = true) (hl : (p ++ c :: r).length ≤ 60000) : p_cut_groups [.str (p ++ c :: r)] st = .er (eText p.length 1) st :=
  p_cut_er (x := []) B (by rw [cut_bad st hc ho hl, List.append_nil])
theorem lowDs_ws (n : Nat) : ∀ ws : List D, Ws ws → lowDs n ws = true
  | [], _ => rfl
  | d :: ws, h => by
    obtain ⟨a, b, rfl, _⟩ := h d List.mem_cons_self
    rw [lowDs, lowDs_ws n ws fun x hx => h x (List.mem_cons_of_mem _ hx)]
    rfl
theorem p_told {st : Store} (B : Bx st) : ∃ (d : D) (t : List Nat) (st' : Store), p__law_raw [.ref 1, .int 4] st = .ok d st' ∧ p__law_text [d] st' = .ok (.str t) st' ∧ Bx st' ∧ okL 2000 t := by
  obtain ⟨w, h, ws, st', e1, B', a1, a2, a3, a4, a5, a6⟩ := raw1 B
  have l1 := B.low.2
  have l2 := B'.low.2
  obtain ⟨t, us, e2, ht⟩ := text1 B' a1 a2 a3 a4 a5 a6
  refine ⟨_, t, st', forget_ok e1 (by omega) (by rw [l1, ← l2]; exact B'.low.1) ?_, forget_ok e2 rfl B'.low.1 rfl, B', ht⟩
  simp [lowD, lowDs, lowDs_ws _ ws a5]
end K01
set_option Elab.async false
set_option linter.all false
set_option autoImplicit false
set_option maxRecDepth 100000
set_option maxHeartbeats 4000000
/-! Law k01: one turn, piece by piece. -/
namespace K01
open Bw
theorem pick_mem {st : Store} (B : Bx st) (ds : List D) (h0 : 0 < ds.length) (hl : ds.length < 1000) : ∃ (d : D) (st' : Store), d ∈ ds ∧ r__law_pick [.ref 1, .lst ds] st = .ok d st' ∧ Bx st' := by
  obtain ⟨i, d, st', h1, h2, h3⟩ := pick1 B ds h0 hl
  exact ⟨d, st', List.mem_of_getElem? h1, h2, h3⟩
theorem all2_rows {n : Nat} {ds ys : List D} (h : All2 (fun _ y => ∃ l, y = .str l ∧ okL n l) ds ys) : ∃ ls : List (List Nat), ys = ls.map .str ∧ ls.length = ds.length ∧ ∀ l ∈ ls, okL n l := by
  induction h with
  | nil => exact ⟨[], rfl, rfl, by simp⟩
  | cons hp _ ih =>
    obtain ⟨ls, rfl, e, hs⟩ := ih
    obtain ⟨l, rfl, hl⟩ := hp
    refine ⟨l :: ls, rfl, by simp [e], fun x hx => ?_⟩
    rcases List.mem_cons.mp hx with rfl | hx
    · exact hl
    · exact hs x hx
theorem sum_n {n : Nat} : ∀ (ls : List (List Nat)), (∀ l ∈ ls, l.length ≤ n) → (ls.map fun x : List Nat => x.length).sum ≤ n * ls.length
  | [], _ => by simp
  | l :: ls, h => by
    have h1 := sum_n ls fun x hx => h x (List.mem_cons_of_mem _ hx)
    have h2 := h l List.mem_cons_self
    have h3 : n * (l :: ls).length = n * ls.length + n := by rw [List.length_cons, Nat.mul_succ]
    simp only [List.map_cons, List.sum_cons] at h1 ⊢
    omega
theorem flat_n {n : Nat} : ∀ (ls : List (List Nat)), (∀ l ∈ ls, okL n l) → okL (n * ls.length) ls.flatten
  | [], _ => ⟨by simp, by simp⟩
  | l :: ls, h => by
    have := okL_app (h l List.mem_cons_self) (flat_n ls fun x hx => h x (List.mem_cons_of_mem _ hx))
    rw [List.flatten_cons, List.length_cons, Nat.mul_succ, Nat.add_comm (n * ls.length) n]
    exact this
theorem join_ok {n : Nat} {ls : List (List Nat)} (h : ∀ l ∈ ls, l.length ≤ n) (hz : n * ls.length ≤ 16777216) (st : Store) : fJoin [] [.lst (ls.map .str)] st = some (.str ls.flatten) := by
  have b1 : seqD st (.lst (ls.map .str)) = some (ls.map .str) := rfl
  have b2 := sum_n ls h
  unfold fJoin
  simp only [b1, Option.bind_some, strsD_map]
  rw [if_pos, joinD_nil]
  refine decide_eq_true ?_
  simp only [List.length_nil, Nat.mul_zero, Nat.add_zero]
  omega
theorem some_ok {st : Store} (B : Bx st) (x0 x2 x3 x4 x5 x6 x7 x8 x9 x10 x11 x12 x13 x14 x15 : Option D) : ∃ (t : List Nat) (st' : Store), w1_5_0 [x0, some (.ref 1), x2, x3, x4, x5, x6, x7, x8, x9, x10, x11, x12, x13, x14, x15] st = .nx [x0, some (.ref 1), x2, x3, x4, x5, x6, x7, some (.str t), x9, x10, x11, x12, x13, x14, x15] st' ∧ Bx st' ∧ okL 46 t := by
  obtain ⟨v, st1, g1, B1, a1, b1⟩ := take1 B (many := 24) (by decide) (by decide)
  obtain ⟨ys, st2, k1, k2, k3⟩ := lc_draw (chk := fun _ => True) (g := gN 9) (e := (mCall (fun ds st => if ds.length = 2 then r__law_pick ds st else .no) (aCons (mVar 1) (aCons (mLst (aCons (mLit (.str [97, 116])) (aCons (mLit (.str [55])) (aCons (mLit (.str [45])) (aCons (mLit (.str [120])) (aCons (mLit (.str [48])) (aCons (mLit (.str [32])) (aCons (mLit (.str [10])) (aCons (mLit (.str [98, 121])) aNil))))))))) aNil)))) (ρ := [x0, some (.ref 1), x2, x3, x4, x5, x6, x7, x8, none, x10, x11, x12, x13, x14, x15]) Bx (fun _ y => ∃ l, y = .str l ∧ okL 2 l) (fun _ _ => trivial) (rng 0 1 v.toNat) [] st1 B1 (by
    intro d hd s Bs
    obtain ⟨d2, s2, h1, h2, h3⟩ := pick_mem Bs [.str [97, 116], .str [55], .str [45], .str [120], .str [48], .str [32], .str [10], .str [98, 121]] (by decide) (by decide)
    refine ⟨_, d2, s2, rfl, ?_, h3, ?_⟩
    · simp [x_var, h2, Sz]
    · simp only [List.mem_cons, List.not_mem_nil, or_false] at h1
      rcases h1 with rfl | rfl | rfl | rfl | rfl | rfl | rfl | rfl <;> exact ⟨_, rfl, by decide, by decide⟩) (by simp [rng]; omega)
  obtain ⟨ls, rfl, e1, e2⟩ := all2_rows k3
  have ll : ls.length ≤ 23 := by rw [e1]; simp [rng]; omega
  have j := join_ok (fun l hl => (e2 l hl).1) (by omega) st2
  have f := flat_n ls e2
  have wp : wipeE [x0, some (.ref 1), x2, x3, x4, x5, x6, x7, x8, x9, x10, x11, x12, x13, x14, x15] [9] = [x0, some (.ref 1), x2, x3, x4, x5, x6, x7, x8, none, x10, x11, x12, x13, x14, x15] := rfl
  have rg : Rg v = true := by simp [Rg]; omega
  rw [List.nil_append] at k1
  refine ⟨ls.flatten, st2, ?_, k2, okL_le f (by omega)⟩
  unfold w1_5_0
  simp only [x_asg, x_str1, x_lit, bind_ok, x_str11, x_cons, x_lc, x_iRng1, x_call, x_var, List.getElem?_cons_zero, List.getElem?_cons_succ, vOf_ref, x_cons1, x_nil, x_cons2, List.length_cons, List.length_nil, if_true, g1, rg, wp]
  show sBind (((kLc (lcF (fun _ => True) (gN 9) tYesM (mCall (fun ds st => if ds.length = 2 then r__law_pick ds st else .no) (aCons (mVar 1) (aCons (mLst (aCons (mLit (.str [97, 116])) (aCons (mLit (.str [55])) (aCons (mLit (.str [45])) (aCons (mLit (.str [120])) (aCons (mLit (.str [48])) (aCons (mLit (.str [32])) (aCons (mLit (.str [10])) (aCons (mLit (.str [98, 121])) aNil))))))))) aNil))) (rng 0 1 v.toNat) [] [x0, some (.ref 1), x2, x3, x4, x5, x6, x7, x8, none, x10, x11, x12, x13, x14, x15] st1)).bind _).bind _) _ _ = _
  rw [k1]
  simp [j]
def lpP (d y : D) : Prop := ∃ g p : List Nat, d = .str g ∧ y = .str (g ++ p) ∧ p ≠ [] ∧ p.length ≤ 3 ∧ ∀ c ∈ p, gp c = true
theorem all2_ps : ∀ {gs : List (List Nat)} {ys : List D}, All2 lpP (gs.map .str) ys → ∃ ps : List (List Nat × List Nat), gs = ps.map (·.1) ∧ ys = (ps.map fun p => p.1 ++ p.2).map .str ∧ ∀ p ∈ ps, p.2 ≠ [] ∧ p.2.length ≤ 3 ∧ ∀ c ∈ p.2, gp c = true
  | [], _, .nil => ⟨[], rfl, rfl, by simp⟩
  | g :: gs, _, .cons hp hr => by
    obtain ⟨ps, e1, e2, e3⟩ := all2_ps hr
    obtain ⟨g2, p, q1, q2, q3⟩ := hp
    cases q1
    refine ⟨(g, p) :: ps, by rw [e1]; rfl, by rw [e2, q2]; rfl, fun x hx => ?_⟩
    rcases List.mem_cons.mp hx with rfl | hx
    · exact q3
    · exact e3 x hx
theorem loose_len : ∀ ps : List (List Nat × List Nat), (∀ p ∈ ps, p.2.length ≤ 3) → (ps.flatMap fun p => p.1 ++ p.2).length ≤ sumL (ps.map (·.1)) + 3 * ps.length
  | [], _ => by simp
  | p :: ps, h => by
    have h1 := loose_len ps fun x hx => h x (List.mem_cons_of_mem _ hx)
    have h2 := h p List.mem_cons_self
    rw [List.flatMap_cons, List.map_cons, sumL_cons, List.length_append, List.length_append, List.length_cons]
    omega
theorem loose_okc : ∀ ps : List (List Nat × List Nat), (∀ p ∈ ps, good p.1 ∧ ∀ c ∈ p.2, gp c = true) → ∀ c ∈ ps.flatMap (fun p => p.1 ++ p.2), okc c = true := by
  intro ps h c hc
  obtain ⟨p, hp, hq⟩ := List.mem_flatMap.mp hc
  rcases List.mem_append.mp hq with q | q
  · exact (good_ok (h p hp).1 c q).1
  · have := (h p hp).2 c q
    simp [okc, this]
theorem loose_ok {st : Store} (B : Bx st) {gs : List (List Nat)} (hg : ∀ g ∈ gs, good g) (hs : sumL gs ≤ 2000) (hn : gs.length ≤ 2000) (x0 x2 x3 x5 x6 x7 x8 x9 x10 x11 x12 x13 x14 x15 : Option D) : ∃ (t : List Nat) (st' : Store), w1_3 [x0, some (.ref 1), x2, x3, some (.tup (gs.map .str)), x5, x6, x7, x8, x9, x10, x11, x12, x13, x14, x15] st = .nx [x0, some (.ref 1), x2, x3, some (.tup (gs.map .str)), some (.str t), x6, x7, x8, x9, x10, x11, x12, x13, x14, x15] st' ∧ Bx st' ∧ Gs t gs ∧ okL 8000 t := by
  obtain ⟨ys, st2, k1, k2, k3⟩ := lc_draw (chk := fun _ => True) (g := gN 6) (e := (mOp fAdd (mVar 6) (mCall (fun ds st => if ds.length = 2 then r__law_pick ds st else .no) (aCons (mVar 1) (aCons (mLst (aCons (mLit (.str [32])) (aCons (mLit (.str [10])) (aCons (mLit (.str [32, 32])) (aCons (mLit (.str [32, 10, 32])) aNil))))) aNil))))) (ρ := [x0, some (.ref 1), x2, x3, some (.tup (gs.map .str)), x5, none, x7, x8, x9, x10, x11, x12, x13, x14, x15]) Bx lpP (fun _ _ => trivial) (gs.map .str) [] st B (by
    intro d hd s Bs
    obtain ⟨g, hm, rfl⟩ := List.mem_map.mp hd
    obtain ⟨d2, s2, h1, h2, h3⟩ := pick_mem Bs [.str [32], .str [10], .str [32, 32], .str [32, 10, 32]] (by decide) (by decide)
    have hl := sumL_mem hm
    have key : ∃ p : List Nat, d2 = .str p ∧ p ≠ [] ∧ p.length ≤ 3 ∧ ∀ c ∈ p, gp c = true := by
      simp only [List.mem_cons, List.not_mem_nil, or_false] at h1
      rcases h1 with rfl | rfl | rfl | rfl <;> exact ⟨_, rfl, by decide, by decide, by decide⟩
    obtain ⟨p, rfl, p1, p2, p3⟩ := key
    have ad : addD (.str g) (.str p) = some (.str (g ++ p)) := if_pos (Sz_of (by omega))
    refine ⟨_, .str (g ++ p), s2, rfl, ?_, h3, g, p, rfl, rfl, p1, p2, p3⟩
    simp [x_var, h2, Sz, ad]) (by simp; omega)
  obtain ⟨ps, rfl, e2, e3⟩ := all2_ps k3
  have pl : ps.length ≤ 2000 := by simpa using hn
  have hgp : ∀ p ∈ ps, good p.1 := fun p hp => hg p.1 (List.mem_map.mpr ⟨p, hp, rfl⟩)
  have j := join_ok (n := 2003) (ls := ps.map fun p => p.1 ++ p.2) (by
    intro l hl
    obtain ⟨p, hp, rfl⟩ := List.mem_map.mp hl
    have h1 := sumL_mem (List.mem_map.mpr ⟨p, hp, rfl⟩ : p.1 ∈ ps.map (·.1))
    have h2 := (e3 p hp).2.1
    rw [List.length_append]
    omega) (by rw [List.length_map]; omega) st2
  have fm : (ps.map fun p => p.1 ++ p.2).flatten = ps.flatMap fun p => p.1 ++ p.2 := rfl
  rw [fm] at j
  have ll := loose_len ps fun p hp => (e3 p hp).2.1
  rw [List.nil_append, e2] at k1
  have wp : wipeE [x0, some (.ref 1), x2, x3, some (.tup ((ps.map (·.1)).map .str)), x5, x6, x7, x8, x9, x10, x11, x12, x13, x14, x15] [6] = [x0, some (.ref 1), x2, x3, some (.tup ((ps.map (·.1)).map .str)), x5, none, x7, x8, x9, x10, x11, x12, x13, x14, x15] := rfl
  refine ⟨ps.flatMap fun p => p.1 ++ p.2, st2, ?_, k2, gs_loose ps fun p hp => ⟨hgp p hp, (e3 p hp).1, (e3 p hp).2.2⟩, ⟨by omega, loose_okc ps fun p hp => ⟨hgp p hp, (e3 p hp).2.2⟩⟩⟩
  unfold w1_3
  simp only [x_asg, x_str1, x_lit, bind_ok, x_str11, x_cons, x_lc, x_iVal, x_var, List.getElem?_cons_zero, List.getElem?_cons_succ, vOf_tup, itemsD, x_ofS, wp]
  show sBind (((kLc (lcF (fun _ => True) (gN 6) tYesM (mOp fAdd (mVar 6) (mCall (fun ds st => if ds.length = 2 then r__law_pick ds st else .no) (aCons (mVar 1) (aCons (mLst (aCons (mLit (.str [32])) (aCons (mLit (.str [10])) (aCons (mLit (.str [32, 32])) (aCons (mLit (.str [32, 10, 32])) aNil))))) aNil)))) ((ps.map (·.1)).map .str) [] [x0, some (.ref 1), x2, x3, some (.tup ((ps.map (·.1)).map .str)), x5, none, x7, x8, x9, x10, x11, x12, x13, x14, x15] st)).bind _).bind _) _ _ = _
  rw [k1]
  simp only [x_lc1, bind_ok, x_cons1, x_nil, x_cons2, j, x_ofS, sBind_ok, x_gN, x_asg1]
  rfl
theorem gsT_p (gs : List (List Nat)) : isP 8 (.tup [.tup (gs.map .str), .tup (gs.map .str)]) = true := by simp [isP, isPs, isPs_strs]
theorem gsT_q (gs : List (List Nat)) : isP 8 (.tup (gs.map .str)) = true := by simp [isP, isPs_strs]

theorem w1_4_ok {st : Store} (B : Bx st) {t : List Nat} {gs : List (List Nat)} (h : Gs t gs) (ho : okL 8000 t) (hn : gs.length ≤ 2000) (x0 x2 x3 x6 x7 x8 x9 x10 x11 x12 x13 x14 x15 : Option D) : w1_4 [x0, some (.ref 1), x2, x3, some (.tup (gs.map .str)), some (.str t), x6, x7, x8, x9, x10, x11, x12, x13, x14, x15] st = .nx [x0, some (.ref 1), x2, x3, some (.tup (gs.map .str)), some (.str t), x6, x7, x8, x9, x10, x11, x12, x13, x14, x15] st := by
  have c1 := p_cut_ok B h ho.2 (by have := ho.1; omega) (by omega)
  have c2 := p_cut_ok B (t := [32] ++ t) (.gap rfl h) (okL_app (okL_lit [32] rfl) ho).2 (by have := ho.1; simp; omega) (by omega)
  have a : addD (.str [32]) (.str t) = some (.str ([32] ++ t)) := if_pos (Sz_of (by have := ho.1; simp; omega))
  have i := is_same st (gsT_p gs)
  have s2 : Sz 2 = true := by decide
  unfold w1_4
  simp only [x_sif, x_tNot, x_tVal, x_call, x_cons, x_tup, x_op, x_var, x_lit, List.getElem?_cons_zero, List.getElem?_cons_succ, vOf_str, vOf_tup, bind_ok, x_nil, x_cons1, x_cons2, List.length_cons, List.length_nil, if_true, c1, x_op1, x_op2, w_add, a, x_ofS, c2, s2, i, x_tVal1, truD, x_tNot1, sBind_ok, Bool.not_true, x_sifF, x_next]
theorem w1_2_ok {st : Store} (B : Bx st) {t : List Nat} {gs : List (List Nat)} (h : Gs t gs) (ho : okL 2000 t) (x0 x2 x5 x6 x7 x8 x9 x10 x11 x12 x13 x14 x15 : Option D) : w1_2 [x0, some (.ref 1), x2, some (.str t), some (.tup (gs.map .str)), x5, x6, x7, x8, x9, x10, x11, x12, x13, x14, x15] st = .nx [x0, some (.ref 1), x2, some (.str t), some (.tup (gs.map .str)), x5, x6, x7, x8, x9, x10, x11, x12, x13, x14, x15] st := by
  have gg := gs_good h
  have gn := gs_count h
  have gl := gs_sum h
  have hl := ho.1
  have tl := tgt_len gs []
  have c1 := p_cut_ok B h ho.2 (by omega) (by omega)
  have c2 := p_cut_ok B (gs_tight gs [] gg) (tgt_okc gs [] gg) (by omega) (by omega)
  have c3 := tight1 st gg (fun g hg x hx => (good_ok (gg g hg) x hx).2) (by omega)
  have i := is_same st (gsT_p gs)
  have s2 : Sz 2 = true := by decide
  unfold w1_2
  simp only [x_sif, x_tNot, x_tVal, x_call, x_cons, x_tup, x_var, x_lit, List.getElem?_cons_zero, List.getElem?_cons_succ, vOf_str, vOf_tup, bind_ok, x_nil, x_cons1, x_cons2, List.length_cons, List.length_nil, if_true, c1, c3, c2, s2, i, x_tVal1, truD, x_tNot1, sBind_ok, Bool.not_true, x_sifF, x_next, x_ofS]
theorem w1_5_1_ok {st : Store} (B : Bx st) {t : List Nat} (ho : okL 46 t) (x0 x2 x3 x4 x5 x6 x7 x9 x10 x11 x12 x13 x14 x15 : Option D) : w1_5_1 [x0, some (.ref 1), x2, x3, x4, x5, x6, x7, some (.str t), x9, x10, x11, x12, x13, x14, x15] st = .nx [x0, some (.ref 1), x2, x3, x4, x5, x6, x7, some (.str t), x9, x10, x11, x12, x13, x14, x15] st := by
  obtain ⟨gs, h⟩ := gs_ex t.length t (Nat.le_refl _) ho.2
  have gn := gs_count h
  have hl := ho.1
  have c1 := p_cut_ok B h ho.2 (by omega) (by omega)
  have c2 := groups1 st (t := t) (by omega)
  rw [law_gs h ho.2] at c2
  have i := is_same st (gsT_q gs)
  unfold w1_5_1
  simp only [x_sif, x_tNot, x_tVal, x_call, x_cons, x_tup, x_var, x_lit, List.getElem?_cons_zero, List.getElem?_cons_succ, vOf_str, vOf_tup, bind_ok, x_nil, x_cons1, x_cons2, List.length_cons, List.length_nil, if_true, c1, c2, i, x_tVal1, truD, x_tNot1, sBind_ok, Bool.not_true, x_sifF, x_next, x_ofS]

theorem odd_ok {st : Store} (B : Bx st) (x0 x2 x3 x4 x5 x6 x7 x8 x9 x10 x11 x12 x13 x14 x15 : Option D) : ∃ (c : Nat) (st' : Store), w1_5_2 [x0, some (.ref 1), x2, x3, x4, x5, x6, x7, x8, x9, x10, x11, x12, x13, x14, x15] st = .nx [x0, some (.ref 1), x2, x3, x4, x5, x6, x7, x8, x9, some (.str [c]), x11, x12, x13, x14, x15] st' ∧ Bx st' ∧ okc c = false := by
  obtain ⟨d2, s2, h1, h2, h3⟩ := pick_mem B [.str [65], .str [46], .str [44], .str [40], .str [9], .str [95], .str [43], .str [47], .str [42]] (by decide) (by decide)
  have key : ∃ c : Nat, d2 = .str [c] ∧ okc c = false := by
    simp only [List.mem_cons, List.not_mem_nil, or_false] at h1
    rcases h1 with rfl | rfl | rfl | rfl | rfl | rfl | rfl | rfl | rfl <;> exact ⟨_, rfl, by decide⟩
  obtain ⟨c, rfl, hc⟩ := key
  refine ⟨c, s2, ?_, h3, hc⟩
  unfold w1_5_2
  simp [x_var, h2, Sz]
theorem at_ok {st : Store} (B : Bx st) {t : List Nat} (ho : okL 46 t) (x0 x2 x3 x4 x5 x6 x7 x9 x10 x11 x12 x13 x14 x15 : Option D) : ∃ (n : Nat) (st' : Store), w1_5_3 [x0, some (.ref 1), x2, x3, x4, x5, x6, x7, some (.str t), x9, x10, x11, x12, x13, x14, x15] st = .nx [x0, some (.ref 1), x2, x3, x4, x5, x6, x7, some (.str t), x9, x10, some (.int (n : Int)), x12, x13, x14, x15] st' ∧ Bx st' ∧ n ≤ t.length := by
  have hl := ho.1
  obtain ⟨v, st1, g1, B1, a1, b1⟩ := take1 B (many := (t.length : Int) + 1) (by omega) (by omega)
  have lf := len_str (t := t) (Sz_of (by omega)) st
  refine ⟨v.toNat, st1, ?_, B1, by omega⟩
  have e : ((v.toNat : Nat) : Int) = v := by omega
  unfold w1_5_3
  simp [x_var, lf, g1, e]
theorem w1_5_4_ok {st : Store} (B : Bx st) {t : List Nat} (ho : okL 46 t) {c n : Nat} (hc : okc c = false) (hn : n ≤ t.length) (x0 x2 x3 x4 x5 x6 x7 x9 x12 x13 x14 x15 : Option D) : w1_5_4 [x0, some (.ref 1), x2, x3, x4, x5, x6, x7, some (.str t), x9, some (.str [c]), some (.int (n : Int)), x12, x13, x14, x15] st = .nx [x0, some (.ref 1), x2, x3, x4, x5, x6, x7, some (.str t), x9, some (.str [c]), some (.int (n : Int)), x12, x13, x14, x15] st := by
  have hl := ho.1
  have c1 := p_cut_bad (p := t.take n) (r := t.drop n) B hc (fun x hx => ho.2 x (List.mem_of_mem_take hx)) (by simp; omega)
  have ln : (t.take n).length = n := by simp; omega
  rw [ln] at c1
  have s1 : sliD (.str t) none (some (n : Int)) st = some (.str (t.take n)) := by
    have hz : Sz t.length = true := Sz_of (by omega)
    show (if Sz t.length then some (D.str (cut t none (some (n : Int)))) else none) = _
    rw [if_pos hz]
    unfold cut clip
    have h0 : ¬ ((n : Int) < 0) := by omega
    simp only [h0, if_false, Int.toNat_natCast, Nat.min_eq_left hn, List.drop_zero, Nat.sub_zero]
  have s2 : sliD (.str t) (some (n : Int)) none st = some (.str (t.drop n)) := by
    have hz : Sz t.length = true := Sz_of (by omega)
    show (if Sz t.length then some (D.str (cut t (some (n : Int)) none)) else none) = _
    rw [if_pos hz]
    unfold cut clip
    have h0 : ¬ ((n : Int) < 0) := by omega
    simp only [h0, if_false, Int.toNat_natCast, Nat.min_eq_left hn]
    rw [List.take_of_length_le (by simp)]
  have a1 : addD (.str (t.take n)) (.str [c]) = some (.str (t.take n ++ [c])) := if_pos (Sz_of (by simp; omega))
  have a2 : addD (.str (t.take n ++ [c])) (.str (t.drop n)) = some (.str (t.take n ++ c :: t.drop n)) := by
    have : t.take n ++ c :: t.drop n = t.take n ++ [c] ++ t.drop n := by simp
    rw [this]
    exact if_pos (Sz_of (by simp; omega))
  have hb : mCall (fun ds st => if ds.length = 1 then p_cut_groups ds st else .no) (aCons (mOp fAdd (mOp fAdd (mSli (mVar 8) oNone (oSome (mVar 11))) (mVar 10)) (mSli (mVar 8) (oSome (mVar 11)) oNone)) aNil) [none, none, none, none, none, none, none, none, some (.str t), none, some (.str [c]), some (.int (n : Int)), none, none, none, none] st = .er (eText n 1) st := by
    simp only [x_call, x_cons, x_op, x_sli, x_var, List.getElem?_cons_zero, List.getElem?_cons_succ, vOf_str, vOf_int, bind_ok, x_sli1, x_oN, x_oS, x_sli2, s1, s2, x_ofS, x_op1, x_op2, w_add, a1, a2, x_nil, x_cons1, x_cons2, List.length_cons, List.length_nil, if_true, c1]
  have e1 := err_er (g := lamD false 0 [false, false, false, false, false, false, false, false, true, false, true, true, false, false, false, false] (mCall (fun ds st => if ds.length = 1 then p_cut_groups ds st else .no) (aCons (mOp fAdd (mOp fAdd (mSli (mVar 8) oNone (oSome (mVar 11))) (mVar 10)) (mSli (mVar 8) (oSome (mVar 11)) oNone)) aNil)) [x0, some (.ref 1), x2, x3, x4, x5, x6, x7, some (.str t), x9, some (.str [c]), some (.int (n : Int)), x12, x13, x14, x15]) hb
  have i := is_same (d := .tup [.str [116, 101, 120, 116], .int n, .int 1]) st rfl
  have s3 : Sz 3 = true := by decide
  unfold w1_5_4
  simp only [x_sif, x_tNot, x_tVal, x_call, x_cons, mLam, x_tup, x_var, x_lit, List.getElem?_cons_zero, List.getElem?_cons_succ, vOf_int, bind_ok, x_nil, x_cons1, x_cons2, List.length_cons, List.length_nil, Nat.zero_add, Nat.add_zero, if_true, e1, s3, i, x_tVal1, truD, x_tNot1, sBind_ok, Bool.not_true, x_sifF, x_next, x_ofS]

end K01
set_option Elab.async false
set_option linter.all false
set_option autoImplicit false
set_option maxRecDepth 100000
set_option maxHeartbeats 4000000
/-! Law k01: the whole. -/
namespace K01
open Bw
def Ev (ρ : Env) : Prop := ∃ x0 x2 x3 x4 x5 x6 x7 x8 x9 x10 x11 x12 x13 x14 x15 : Option D, ρ = [x0, some (.ref 1), x2, x3, x4, x5, x6, x7, x8, x9, x10, x11, x12, x13, x14, x15]
theorem in_turn {ρ : Env} {st : Store} (h : Ev ρ) (B : Bx st) : ∃ ρ' st', w1_5B ρ st = .nx ρ' st' ∧ Ev ρ' ∧ Bx st' := by
  obtain ⟨x0, x2, x3, x4, x5, x6, x7, x8, x9, x10, x11, x12, x13, x14, x15, rfl⟩ := h
  obtain ⟨t, st1, e1, B1, ho⟩ := some_ok B x0 x2 x3 x4 x5 x6 x7 x8 x9 x10 x11 x12 x13 x14 x15
  obtain ⟨c, st2, e2, B2, hc⟩ := odd_ok B1 x0 x2 x3 x4 x5 x6 x7 (some (.str t)) x9 x10 x11 x12 x13 x14 x15
  obtain ⟨n, st3, e3, B3, hn⟩ := at_ok B2 ho x0 x2 x3 x4 x5 x6 x7 x9 (some (.str [c])) x11 x12 x13 x14 x15
  unfold w1_5B
  rw [x_seq, e1, sq_nx, x_seq, w1_5_1_ok B1 ho, sq_nx, x_seq, e2, sq_nx, x_seq, e3, sq_nx, w1_5_4_ok B3 ho hc hn]
  exact ⟨_, st3, rfl, ⟨_, _, _, _, _, _, _, _, _, _, _, _, _, _, _, rfl⟩, B3⟩
theorem in_all {ρ : Env} {st : Store} (h : Ev ρ) (B : Bx st) : ∃ ρ' st', w1_5 ρ st = .nx ρ' st' ∧ Ev ρ' ∧ Bx st' := by
  obtain ⟨ρ', st', e, h', B'⟩ := loop_inv (chk := fun _ => True) (g := gN 7) (body := w1_5B) (fun ρ st => Ev ρ ∧ Bx st) (fun _ _ _ => trivial) (rng 0 1 6) (by
    intro d _ ρ st ⟨h, B⟩
    have h2 : Ev (ρ.set 7 (some d)) := by
      obtain ⟨x0, x2, x3, x4, x5, x6, x7, x8, x9, x10, x11, x12, x13, x14, x15, rfl⟩ := h
      exact ⟨_, _, _, _, _, _, _, _, _, _, _, _, _, _, _, rfl⟩
    obtain ⟨ρ'', st'', e, h', B'⟩ := in_turn h2 B
    exact ⟨_, ρ'', st'', rfl, e, h', B'⟩) ρ st ⟨h, B⟩
  refine ⟨ρ', st', ?_, h', B'⟩
  unfold w1_5
  have it : iRng1 (aCons (mLit (.int 6)) aNil) ρ st = .ok (still (rng 0 1 6)) st := by simp [Rg]
  rw [x_for, it, sBind_ok]
  exact e
theorem out_turn {ρ : Env} {st : Store} (h : Ev ρ) (B : Bx st) : ∃ ρ' st', w1B ρ st = .nx ρ' st' ∧ Ev ρ' ∧ Bx st' := by
  obtain ⟨x0, x2, x3, x4, x5, x6, x7, x8, x9, x10, x11, x12, x13, x14, x15, rfl⟩ := h
  obtain ⟨d, t, st1, e1, e2, B1, ho⟩ := p_told B
  obtain ⟨gs, hg⟩ := gs_ex t.length t (Nat.le_refl _) ho.2
  have hl := ho.1
  have gn := gs_count hg
  have gl := gs_sum hg
  have c1 := groups1 st1 (t := t) (by omega)
  rw [law_gs hg ho.2] at c1
  have a1 : w1_0 [x0, some (.ref 1), x2, x3, x4, x5, x6, x7, x8, x9, x10, x11, x12, x13, x14, x15] st = .nx [x0, some (.ref 1), x2, some (.str t), x4, x5, x6, x7, x8, x9, x10, x11, x12, x13, x14, x15] st1 := by
    unfold w1_0
    simp [x_var, e1, e2]
  have a2 : w1_1 [x0, some (.ref 1), x2, some (.str t), x4, x5, x6, x7, x8, x9, x10, x11, x12, x13, x14, x15] st1 = .nx [x0, some (.ref 1), x2, some (.str t), some (.tup (gs.map .str)), x5, x6, x7, x8, x9, x10, x11, x12, x13, x14, x15] st1 := by
    unfold w1_1
    simp [x_var, c1]
  have a3 := w1_2_ok B1 hg ho x0 x2 x5 x6 x7 x8 x9 x10 x11 x12 x13 x14 x15
  obtain ⟨l, st2, a4, B2, hg2, ho2⟩ := loose_ok B1 (gs_good hg) (by omega) (by omega) x0 x2 (some (.str t)) x5 x6 x7 x8 x9 x10 x11 x12 x13 x14 x15
  have a5 := w1_4_ok B2 hg2 ho2 (by omega) x0 x2 (some (.str t)) x6 x7 x8 x9 x10 x11 x12 x13 x14 x15
  obtain ⟨ρ', st3, a6, h', B3⟩ := in_all (ρ := [x0, some (.ref 1), x2, some (.str t), some (.tup (gs.map .str)), some (.str l), x6, x7, x8, x9, x10, x11, x12, x13, x14, x15]) ⟨_, _, _, _, _, _, _, _, _, _, _, _, _, _, _, rfl⟩ B2
  refine ⟨ρ', st3, ?_, h', B3⟩
  unfold w1B
  rw [x_seq, a1, sq_nx, x_seq, a2, sq_nx, x_seq, a3, sq_nx, x_seq, a4, sq_nx, x_seq, a5, sq_nx, a6]
theorem out_all {ρ : Env} {st : Store} (h : Ev ρ) (B : Bx st) : ∃ ρ' st', w1 ρ st = .nx ρ' st' ∧ Ev ρ' ∧ Bx st' := by
  obtain ⟨ρ', st', e, h', B'⟩ := loop_inv (chk := fun _ => True) (g := gN 2) (body := w1B) (fun ρ st => Ev ρ ∧ Bx st) (fun _ _ _ => trivial) (rng 0 1 5) (by
    intro d _ ρ st ⟨h, B⟩
    have h2 : Ev (ρ.set 2 (some d)) := by
      obtain ⟨x0, x2, x3, x4, x5, x6, x7, x8, x9, x10, x11, x12, x13, x14, x15, rfl⟩ := h
      exact ⟨_, _, _, _, _, _, _, _, _, _, _, _, _, _, _, rfl⟩
    obtain ⟨ρ'', st'', e, h', B'⟩ := out_turn h2 B
    exact ⟨_, ρ'', st'', rfl, e, h', B'⟩) ρ st ⟨h, B⟩
  refine ⟨ρ', st', ?_, h', B'⟩
  unfold w1
  have it : iRng1 (aCons (mLit (.int 5)) aNil) ρ st = .ok (still (rng 0 1 5)) st := by simp [Rg]
  rw [x_for, it, sBind_ok]
  exact e
/-! ### limits -/
theorem rep_mem {l : List Nat} {c : Nat} : ∀ {n : Nat}, c ∈ rep l n → c ∈ l
  | 0, h => by cases h
  | n + 1, h => (List.mem_append.mp h).elim id rep_mem
theorem rp_len (l : List Nat) : ∀ n, (rep l n).length = l.length * n
  | 0 => rfl
  | n + 1 => by
    show (l ++ rep l n).length = _
    rw [List.length_append, rp_len l n, Nat.mul_succ, Nat.add_comm]
theorem rep_okc {l : List Nat} (h : ∀ c ∈ l, okc c = true) {n : Nat} : ∀ c ∈ rep l n, okc c = true := fun c hc => h c (rep_mem hc)
theorem gs_bars : ∀ n, Gs (rep [45] n) (List.replicate n [45])
  | 0 => .nil
  | n + 1 => .bar (gs_bars n)
theorem gs_sevens : ∀ n, Gs (rep [55, 32] n) (List.replicate n [55])
  | 0 => .nil
  | n + 1 => .run (k := 2) (c := 55) (g := []) (r := 32 :: rep [55, 32] n) (by decide) (by decide) (by
    intro x hx
    have : 32 = x := by simpa using hx
    rw [← this]
    decide) (.gap rfl (gs_sevens n))
theorem gs_abs : ∀ n, Gs (rep [97, 98, 32] n) (List.replicate n [97, 98])
  | 0 => .nil
  | n + 1 => .run (k := 1) (c := 97) (g := [98]) (r := 32 :: rep [97, 98, 32] n) (by decide) (by decide) (by
    intro x hx
    have : 32 = x := by simpa using hx
    rw [← this]
    decide) (.gap rfl (gs_abs n))
theorem gs_one (n : Nat) : Gs (122 :: rep [122] n) [122 :: rep [122] n] := by
  have := Gs.run (k := 1) (c := 122) (g := rep [122] n) (r := []) (by decide) (by
    intro x hx
    rcases List.mem_cons.mp hx with rfl | hx
    · decide
    · rw [List.mem_singleton.mp (rep_mem hx)]; decide) (by simp) .nil
  rw [List.append_nil] at this
  exact this
def Ans (t : List Nat) (st : Store) (due : D) : Prop := (∃ d, p_cut_groups [.str t] st = .ok d st) ∧ due = .tup [.str [116, 111, 108, 100]] ∨ ∃ i j, p_cut_groups [.str t] st = .er (eText i j) st ∧ due = .tup [.str [116, 101, 120, 116], .int i, .int j]
theorem Ans.err {t : List Nat} {st : Store} {due : D} (h : Ans t st due) {g : Clo} (hg : g [] st = p_cut_groups [.str t] st) : r__law_error g [] st = .ok due st ∧ isP 8 due = true ∧ isV due = true := by
  rcases h with ⟨⟨d, h1⟩, rfl⟩ | ⟨i, j, h1, rfl⟩
  · exact ⟨err_ok (hg.trans h1), rfl, rfl⟩
  · exact ⟨err_er (hg.trans h1), rfl, rfl⟩
theorem ans_row {st : Store} (B : Bx st) {t : List Nat} {gs : List (List Nat)} (h : Gs t gs) (ho : ∀ c ∈ t, okc c = true) (hl : t.length ≤ 60000) (hg : gs.length ≤ 4000) : Ans t st (.tup [.str [116, 111, 108, 100]]) := .inl ⟨⟨_, p_cut_ok B h ho hl hg⟩, rfl⟩
theorem ans_many {st : Store} (B : Bx st) {t : List Nat} {gs : List (List Nat)} (h : Gs t gs) (ho : ∀ c ∈ t, okc c = true) (hl : t.length ≤ 60000) (hg : 4000 < gs.length) : Ans t st (.tup [.str [116, 101, 120, 116], .int (-1), .int 2]) :=
  .inr ⟨-1, 2, p_cut_er (x := [.lst (gs.map .str)]) B (by rw [cut_ok st h ho hl, if_neg (by omega)]), rfl⟩
theorem ans_long {st : Store} (B : Bx st) {t : List Nat} (h : 60000 < t.length) (hz : t.length ≤ 16777216) : Ans t st (.tup [.str [116, 101, 120, 116], .int (-1), .int 0]) :=
  .inr ⟨-1, 0, p_cut_er (x := []) B (by rw [cut_long st (Sz_of hz) h, List.append_nil]), rfl⟩
theorem add_str {a b : List Nat} (h : a.length + b.length ≤ 16777216) : addD (.str a) (.str b) = some (.str (a ++ b)) := if_pos (Sz_of h)
theorem mul_str {a : List Nat} {i : Int} {n : Nat} (hi : i = (n : Int)) (h1 : n ≤ 16777216) (h2 : a.length * n ≤ 16777216) : mulD (.str a) (.int i) = some (.str (rep a n)) := by
  subst hi
  have h0 : (0 : Int) ≤ n := by omega
  simp [mulD, Sz_of h1, Sz_of h2]

theorem w2_one {st : Store} {s t : List Nat} {n : Int} {due : D} (hm : mulD (.str s) (.int n) = some (.str t)) (h : Ans t st due) (x0 x2 x3 x4 x5 x6 x7 x8 x9 x10 x11 x15 : Option D) : w2_0B [x0, some (.ref 1), x2, x3, x4, x5, x6, x7, x8, x9, x10, x11, some (.str s), some (.int n), some due, x15] st = .nx [x0, some (.ref 1), x2, x3, x4, x5, x6, x7, x8, x9, x10, x11, some (.str s), some (.int n), some due, x15] st := by
  have hb : lamD false 0 [false, false, false, false, false, false, false, false, false, false, false, false, true, true, false, false] (mCall (fun ds st => if ds.length = 1 then p_cut_groups ds st else .no) (aCons (mOp fMul (mVar 12) (mVar 13)) aNil)) [x0, some (.ref 1), x2, x3, x4, x5, x6, x7, x8, x9, x10, x11, some (.str s), some (.int n), some due, x15] [] st = p_cut_groups [.str t] st := by
    show (mCall (fun ds st => if ds.length = 1 then p_cut_groups ds st else .no) (aCons (mOp fMul (mVar 12) (mVar 13)) aNil)) [none, none, none, none, none, none, none, none, none, none, none, none, some (.str s), some (.int n), none, none] st = _
    simp only [x_call, x_cons, x_op, x_var, List.getElem?_cons_zero, List.getElem?_cons_succ, vOf_str, vOf_int, bind_ok, x_ofS, x_op1, x_op2, w_mul, hm, x_nil, x_cons1, x_cons2, List.length_cons, List.length_nil, if_true]
  obtain ⟨e1, e2, e3⟩ := h.err hb
  have i := is_same st e2
  unfold w2_0B w2_0_0
  simp only [x_sif, x_tNot, x_tVal, x_call, x_cons, mLam, x_var, List.getElem?_cons_zero, List.getElem?_cons_succ, vOf_of e3, bind_ok, x_nil, x_cons1, x_cons2, List.length_cons, List.length_nil, Nat.zero_add, Nat.add_zero, if_true, e1, i, x_tVal1, truD, x_tNot1, sBind_ok, Bool.not_true, x_sifF, x_next, x_ofS]

theorem w2_two {st : Store} {s t u : List Nat} (hm : mulD (.str s) (.int 4000) = some (.str t)) (hm2 : mulD (.str s) (.int 4001) = some (.str u)) (h : Ans t st (.tup [.str [116, 111, 108, 100]])) (h2 : Ans u st (.tup [.str [116, 101, 120, 116], .int (-1), .int 2])) (x0 x2 x3 x4 x5 x6 x7 x8 x9 x10 x11 x13 x14 x15 : Option D) : w2B [x0, some (.ref 1), x2, x3, x4, x5, x6, x7, x8, x9, x10, x11, some (.str s), x13, x14, x15] st = .nx [x0, some (.ref 1), x2, x3, x4, x5, x6, x7, x8, x9, x10, x11, some (.str s), some (.int 4001), some (.tup [.str [116, 101, 120, 116], .int (-1), .int 2]), x15] st := by
  have l1 := w2_one hm h x0 x2 x3 x4 x5 x6 x7 x8 x9 x10 x11 x15
  have l2 := w2_one hm2 h2 x0 x2 x3 x4 x5 x6 x7 x8 x9 x10 x11 x15
  have it : iVal (mLst (aCons (mTup (aCons (mLit (.int 4000)) (aCons (mTup (aCons (mLit (.str [116, 111, 108, 100])) aNil)) aNil))) (aCons (mTup (aCons (mLit (.int 4001)) (aCons (mTup (aCons (mLit (.str [116, 101, 120, 116])) (aCons (mUn (fun x _ => negD x) (mLit (.int 1))) (aCons (mLit (.int 2)) aNil)))) aNil))) aNil))) [x0, some (.ref 1), x2, x3, x4, x5, x6, x7, x8, x9, x10, x11, some (.str s), x13, x14, x15] st = .ok (still [.tup [.int 4000, .tup [.str [116, 111, 108, 100]]], .tup [.int 4001, .tup [.str [116, 101, 120, 116], .int (-1), .int 2]]]) st := by simp [Sz, negD, itemsD]
  unfold w2B w2_0
  rw [x_for, it, sBind_ok]
  show loopF (fun _ => True) _ _ [_, _] _ _ = _
  rw [loop_nx (chk := fun _ => True) trivial (ρ' := [x0, some (.ref 1), x2, x3, x4, x5, x6, x7, x8, x9, x10, x11, some (.str s), some (.int 4000), some (.tup [.str [116, 111, 108, 100]]), x15]) rfl l1, loop_nx (chk := fun _ => True) trivial (ρ' := [x0, some (.ref 1), x2, x3, x4, x5, x6, x7, x8, x9, x10, x11, some (.str s), some (.int 4001), some (.tup [.str [116, 101, 120, 116], .int (-1), .int 2]), x15]) rfl l2, loop_nil (chk := fun _ => True) trivial]
theorem w2_all {ρ : Env} {st : Store} (h : Ev ρ) (B : Bx st) : ∃ ρ', w2 ρ st = .nx ρ' st ∧ Ev ρ' := by
  obtain ⟨x0, x2, x3, x4, x5, x6, x7, x8, x9, x10, x11, x12, x13, x14, x15, rfl⟩ := h
  have f1 : ∀ n, n ≤ 4001 → (rep [45] n).length ≤ 60000 ∧ (rep [55, 32] n).length ≤ 60000 ∧ (rep [97, 98, 32] n).length ≤ 60000 := by
    intro n hn
    rw [rp_len, rp_len, rp_len]
    exact ⟨by simp; omega, by simp; omega, by simp; omega⟩
  have r1 := w2_two (s := [45]) (mul_str (n := 4000) rfl (by decide) (by decide)) (mul_str (n := 4001) rfl (by decide) (by decide)) (ans_row B (gs_bars 4000) (rep_okc (by decide)) (f1 _ (by decide)).1 (Nat.le_of_eq List.length_replicate)) (ans_many B (gs_bars 4001) (rep_okc (by decide)) (f1 _ (by decide)).1 (by rw [List.length_replicate]; decide))
  have r2 := w2_two (s := [55, 32]) (mul_str (n := 4000) rfl (by decide) (by decide)) (mul_str (n := 4001) rfl (by decide) (by decide)) (ans_row B (gs_sevens 4000) (rep_okc (by decide)) (f1 _ (by decide)).2.1 (Nat.le_of_eq List.length_replicate)) (ans_many B (gs_sevens 4001) (rep_okc (by decide)) (f1 _ (by decide)).2.1 (by rw [List.length_replicate]; decide))
  have r3 := w2_two (s := [97, 98, 32]) (mul_str (n := 4000) rfl (by decide) (by decide)) (mul_str (n := 4001) rfl (by decide) (by decide)) (ans_row B (gs_abs 4000) (rep_okc (by decide)) (f1 _ (by decide)).2.2 (Nat.le_of_eq List.length_replicate)) (ans_many B (gs_abs 4001) (rep_okc (by decide)) (f1 _ (by decide)).2.2 (by rw [List.length_replicate]; decide))
  have it : iVal (mLst (aCons (mLit (.str [45])) (aCons (mLit (.str [55, 32])) (aCons (mLit (.str [97, 98, 32])) aNil)))) [x0, some (.ref 1), x2, x3, x4, x5, x6, x7, x8, x9, x10, x11, x12, x13, x14, x15] st = .ok (still [.str [45], .str [55, 32], .str [97, 98, 32]]) st := by simp [Sz, itemsD]
  unfold w2
  rw [x_for, it, sBind_ok]
  show ∃ ρ', loopF (fun _ => True) _ _ [_, _, _] _ _ = _ ∧ _
  rw [loop_nx (chk := fun _ => True) trivial (ρ' := [x0, some (.ref 1), x2, x3, x4, x5, x6, x7, x8, x9, x10, x11, some (.str [45]), x13, x14, x15]) rfl (r1 x0 x2 x3 x4 x5 x6 x7 x8 x9 x10 x11 x13 x14 x15), loop_nx (chk := fun _ => True) trivial (ρ' := [x0, some (.ref 1), x2, x3, x4, x5, x6, x7, x8, x9, x10, x11, some (.str [55, 32]), some (.int 4001), some (.tup [.str [116, 101, 120, 116], .int (-1), .int 2]), x15]) rfl (r2 x0 x2 x3 x4 x5 x6 x7 x8 x9 x10 x11 (some (.int 4001)) (some (.tup [.str [116, 101, 120, 116], .int (-1), .int 2])) x15), loop_nx (chk := fun _ => True) trivial (ρ' := [x0, some (.ref 1), x2, x3, x4, x5, x6, x7, x8, x9, x10, x11, some (.str [97, 98, 32]), some (.int 4001), some (.tup [.str [116, 101, 120, 116], .int (-1), .int 2]), x15]) rfl (r3 x0 x2 x3 x4 x5 x6 x7 x8 x9 x10 x11 (some (.int 4001)) (some (.tup [.str [116, 101, 120, 116], .int (-1), .int 2])) x15), loop_nil (chk := fun _ => True) trivial]
  exact ⟨_, rfl, _, _, _, _, _, _, _, _, _, _, _, _, _, _, _, rfl⟩

theorem w3_one {st : Store} {t u v : List Nat} {n : Int} {due due2 : D} (hm : mulD (.str [122]) (.int n) = some (.str t)) (hm2 : mulD (.str [46]) (.int (n - 1)) = some (.str u)) (ha : addD (.str [45]) (.str u) = some (.str v)) (h : Ans t st due) (h2 : Ans v st due2) (x0 x2 x3 x4 x5 x6 x7 x8 x9 x10 x11 x12 x13 : Option D) (hi : (mIf (tCmp (mOp fEq (mVar 14) (mTup (aCons (mLit (.str [116, 111, 108, 100])) aNil)))) (mTup (aCons (mLit (.str [116, 101, 120, 116])) (aCons (mLit (.int 1)) (aCons (mLit (.int 1)) aNil)))) (mVar 14)) [x0, some (.ref 1), x2, x3, x4, x5, x6, x7, x8, x9, x10, x11, x12, x13, some due, some (.int n)] st = .ok due2 st) : w3B [x0, some (.ref 1), x2, x3, x4, x5, x6, x7, x8, x9, x10, x11, x12, x13, some due, some (.int n)] st = .nx [x0, some (.ref 1), x2, x3, x4, x5, x6, x7, x8, x9, x10, x11, x12, x13, some due, some (.int n)] st := by
  have hb : lamD false 0 [false, false, false, false, false, false, false, false, false, false, false, false, false, false, false, true] (mCall (fun ds st => if ds.length = 1 then p_cut_groups ds st else .no) (aCons (mOp fMul (mLit (.str [122])) (mVar 15)) aNil)) [x0, some (.ref 1), x2, x3, x4, x5, x6, x7, x8, x9, x10, x11, x12, x13, some due, some (.int n)] [] st = p_cut_groups [.str t] st := by
    show (mCall (fun ds st => if ds.length = 1 then p_cut_groups ds st else .no) (aCons (mOp fMul (mLit (.str [122])) (mVar 15)) aNil)) [none, none, none, none, none, none, none, none, none, none, none, none, none, none, none, some (.int n)] st = _
    simp only [x_call, x_cons, x_op, x_lit, x_var, List.getElem?_cons_zero, List.getElem?_cons_succ, vOf_str, vOf_int, bind_ok, x_ofS, x_op1, x_op2, w_mul, hm, x_nil, x_cons1, x_cons2, List.length_cons, List.length_nil, if_true]
  have hb2 : lamD true 0 [false, false, false, false, false, false, false, false, false, false, false, false, false, false, false, true] (mCall (fun ds st => if ds.length = 1 then p_cut_groups ds st else .no) (aCons (mOp fAdd (mLit (.str [45])) (mOp fMul (mLit (.str [46])) (mOp fSub (mVar 16) (mLit (.int 1))))) aNil)) [x0, some (.ref 1), x2, x3, x4, x5, x6, x7, x8, x9, x10, x11, x12, x13, some due, some (.int n)] [] st = p_cut_groups [.str v] st := by
    show (mCall (fun ds st => if ds.length = 1 then p_cut_groups ds st else .no) (aCons (mOp fAdd (mLit (.str [45])) (mOp fMul (mLit (.str [46])) (mOp fSub (mVar 16) (mLit (.int 1))))) aNil)) [some .non, none, none, none, none, none, none, none, none, none, none, none, none, none, none, none, some (.int n)] st = _
    simp only [x_call, x_cons, x_op, x_lit, x_var, List.getElem?_cons_zero, List.getElem?_cons_succ, vOf_str, vOf_int, bind_ok, x_ofS, x_op1, x_op2, w_mul, w_add, w_sub, w_subi, hm2, ha, x_nil, x_cons1, x_cons2, List.length_cons, List.length_nil, if_true]
  obtain ⟨e1, e2, e3⟩ := h.err hb
  obtain ⟨f1, f2, f3⟩ := h2.err hb2
  have i := is_same st e2
  have j := is_same st f2
  unfold w3B w3_0
  simp only [x_sif, x_tOr, x_tNot, x_tVal, x_call, x_cons, mLam, hi, x_var, List.getElem?_cons_zero, List.getElem?_cons_succ, vOf_of e3, bind_ok, x_nil, x_cons1, x_cons2, List.length_cons, List.length_nil, Nat.zero_add, Nat.add_zero, if_true, e1, f1, i, j, x_tVal1, truD, x_tNot1, sBind_ok, Bool.not_true, x_tOrF, x_sifF, x_next, x_ofS]
theorem w3_all {ρ : Env} {st : Store} (h : Ev ρ) (B : Bx st) : ∃ ρ', w3 ρ st = .nx ρ' st ∧ Ev ρ' := by
  obtain ⟨x0, x2, x3, x4, x5, x6, x7, x8, x9, x10, x11, x12, x13, x14, x15, rfl⟩ := h
  have it : iVal (mLst (aCons (mTup (aCons (mLit (.int 60000)) (aCons (mTup (aCons (mLit (.str [116, 111, 108, 100])) aNil)) aNil))) (aCons (mTup (aCons (mLit (.int 60001)) (aCons (mTup (aCons (mLit (.str [116, 101, 120, 116])) (aCons (mUn (fun x _ => negD x) (mLit (.int 1))) (aCons (mLit (.int 0)) aNil)))) aNil))) aNil))) [x0, some (.ref 1), x2, x3, x4, x5, x6, x7, x8, x9, x10, x11, x12, x13, x14, x15] st = .ok (still [.tup [.int 60000, .tup [.str [116, 111, 108, 100]]], .tup [.int 60001, .tup [.str [116, 101, 120, 116], .int (-1), .int 0]]]) st := by simp [Sz, negD, itemsD]
  have ln : ∀ (c n : Nat), (rep [c] n).length = n := fun c n => by rw [rp_len]; simp
  have a1 : Ans (rep [122] 60000) st (.tup [.str [116, 111, 108, 100]]) := ans_row B (gs_one 59999) (rep_okc (l := [122]) (n := 60000) (by decide)) (Nat.le_of_eq (ln _ _)) (by simp)
  have a2 : Ans (rep [122] 60001) st (.tup [.str [116, 101, 120, 116], .int (-1), .int 0]) := ans_long B (by rw [ln]; decide) (by rw [ln]; decide)
  have b1 : Ans ([45] ++ rep [46] 59999) st (.tup [.str [116, 101, 120, 116], .int 1, .int 1]) := .inr ⟨1, 1, p_cut_bad (p := [45]) (c := 46) (r := rep [46] 59998) B rfl (by decide) (by simp only [List.length_append, List.length_cons, List.length_nil, ln]; decide), rfl⟩
  have b2 : Ans ([45] ++ rep [46] 60000) st (.tup [.str [116, 101, 120, 116], .int (-1), .int 0]) := ans_long B (by rw [List.length_append, ln]; decide) (by rw [List.length_append, ln]; decide)
  have ev1 : eqv st (.tup [.str [116, 111, 108, 100]]) (.tup [.str [116, 111, 108, 100]]) = some true := by simp [eqv, flat2, rd, shp, shps, eqD, eqDs]
  have ev2 : eqv st (.tup [.str [116, 101, 120, 116], .int (-1), .int 0]) (.tup [.str [116, 111, 108, 100]]) = some false := by simp [eqv, flat2, rd, shp, shps, eqD, eqDs]
  have q1 := w3_one (st := st) (n := 60000) (due := .tup [.str [116, 111, 108, 100]]) (due2 := .tup [.str [116, 101, 120, 116], .int 1, .int 1]) (mul_str (n := 60000) rfl (by decide) (by decide)) (mul_str (n := 59999) rfl (by decide) (by decide)) (add_str (by simp only [List.length_cons, List.length_nil, ln]; omega)) a1 b1 x0 x2 x3 x4 x5 x6 x7 x8 x9 x10 x11 x12 x13 (by
    simp only [x_if, x_tCmp, x_op, x_var, x_tup, x_cons, x_lit, List.getElem?_cons_zero, List.getElem?_cons_succ, vOf_tup, bind_ok, x_nil, x_cons1, x_cons2, List.length_cons, List.length_nil, x_op1, x_op2, w_eq]
    simp [Sz, ev1])
  have q2 := w3_one (st := st) (n := 60001) (due := .tup [.str [116, 101, 120, 116], .int (-1), .int 0]) (due2 := .tup [.str [116, 101, 120, 116], .int (-1), .int 0]) (mul_str (n := 60001) rfl (by decide) (by decide)) (mul_str (n := 60000) rfl (by decide) (by decide)) (add_str (by simp only [List.length_cons, List.length_nil, ln]; omega)) a2 b2 x0 x2 x3 x4 x5 x6 x7 x8 x9 x10 x11 x12 x13 (by
    simp only [x_if, x_tCmp, x_op, x_var, x_tup, x_cons, x_lit, List.getElem?_cons_zero, List.getElem?_cons_succ, vOf_tup, bind_ok, x_nil, x_cons1, x_cons2, List.length_cons, List.length_nil, x_op1, x_op2, w_eq]
    simp [Sz, ev2, x_var])
  unfold w3
  rw [x_for, it, sBind_ok]
  show ∃ ρ', loopF (fun _ => True) _ _ [_, _] _ _ = _ ∧ _
  rw [loop_nx (chk := fun _ => True) trivial (ρ' := [x0, some (.ref 1), x2, x3, x4, x5, x6, x7, x8, x9, x10, x11, x12, x13, some (.tup [.str [116, 111, 108, 100]]), some (.int 60000)]) rfl q1, loop_nx (chk := fun _ => True) trivial (ρ' := [x0, some (.ref 1), x2, x3, x4, x5, x6, x7, x8, x9, x10, x11, x12, x13, some (.tup [.str [116, 101, 120, 116], .int (-1), .int 0]), some (.int 60001)]) rfl q2, loop_nil (chk := fun _ => True) trivial]
  exact ⟨_, rfl, _, _, _, _, _, _, _, _, _, _, _, _, _, _, _, rfl⟩
/-! ### any value -/
noncomputable abbrev allB (gc : Clo) : MS := (sIf (tNot (tVal (mCall (fun ds st => if ds.length = 2 then (r__law_is 8) ds st else .no) (aCons (mLam (fun gc ds st => if ds.length + 1 = 1 then r__law_error gc ds st else .no) false 0 [true, false, false, true] (mAct 0 gc (aCons (mVar 3) aNil)) aNil) (aCons (mVar 2) aNil))))) (sRet (mLit (.bl false))) sNext)
theorem all_loop {gc : Clo} {st : Store} {i j : Int} (x1 : Option D) : ∀ (vs : List D) (x3 : Option D), (∀ v ∈ vs, isV v = true ∧ gc [v] st = .er (eText i j) st) → ∃ x3', loopF (fun _ => True) (gN 3) (allB gc) vs [some (.clo 0), x1, some (.tup [.str [116, 101, 120, 116], .int i, .int j]), x3] st = .nx [some (.clo 0), x1, some (.tup [.str [116, 101, 120, 116], .int i, .int j]), x3'] st
  | [], x3, _ => ⟨x3, loop_nil trivial⟩
  | v :: vs, x3, h => by
    obtain ⟨h1, h2⟩ := h v List.mem_cons_self
    have hb : lamD false 0 [true, false, false, true] (mAct 0 gc (aCons (mVar 3) aNil)) [some (.clo 0), x1, some (.tup [.str [116, 101, 120, 116], .int i, .int j]), some v] [] st = .er (eText i j) st := by
      show (aCons (mVar 3) aNil [some (.clo 0), none, none, some v] st).bind gc = _
      simp only [x_cons, x_var, List.getElem?_cons_zero, List.getElem?_cons_succ, vOf_of h1, bind_ok, x_nil, x_cons1, x_cons2, h2]
    have e1 := err_er hb
    have k := is_same (d := .tup [.str [116, 101, 120, 116], .int i, .int j]) st rfl
    have t1 : allB gc [some (.clo 0), x1, some (.tup [.str [116, 101, 120, 116], .int i, .int j]), some v] st = .nx [some (.clo 0), x1, some (.tup [.str [116, 101, 120, 116], .int i, .int j]), some v] st := by
      unfold allB
      simp only [x_sif, x_tNot, x_tVal, x_call, x_cons, mLam, x_var, List.getElem?_cons_zero, List.getElem?_cons_succ, vOf_tup, bind_ok, x_nil, x_cons1, x_cons2, List.length_cons, List.length_nil, Nat.zero_add, Nat.add_zero, if_true, e1, k, x_tVal1, truD, x_tNot1, sBind_ok, Bool.not_true, x_sifF, x_next, x_ofS]
    rw [loop_nx (chk := fun _ => True) trivial (ρ' := [some (.clo 0), x1, some (.tup [.str [116, 101, 120, 116], .int i, .int j]), some v]) rfl t1]
    exact all_loop x1 vs _ fun x hx => h x (List.mem_cons_of_mem _ hx)
theorem all_ok {gc : Clo} {st : Store} {i j : Int} (vs : List D) (h : ∀ v ∈ vs, isV v = true ∧ gc [v] st = .er (eText i j) st) : r__law_all gc [.lst vs, .tup [.str [116, 101, 120, 116], .int i, .int j]] st = .ok (.bl true) st := by
  show bodyR (m__law_all (r__law_is 8) r__law_error gc (envE 4 (some (.clo 0) :: [D.lst vs, .tup [.str [116, 101, 120, 116], .int i, .int j]].map some)) st) = _
  have e0 : envE 4 (some (.clo 0) :: [D.lst vs, .tup [.str [116, 101, 120, 116], .int i, .int j]].map some) = [some (.clo 0), some (.lst vs), some (.tup [.str [116, 101, 120, 116], .int i, .int j]), none] := rfl
  obtain ⟨x3, q⟩ := all_loop (some (.lst vs)) vs none h
  rw [e0]
  unfold m__law_all
  simp only [x_seq, x_for, x_iVal, x_var, List.getElem?_cons_zero, List.getElem?_cons_succ, vOf_lst, bind_ok, itemsD, x_ofS, sBind_ok]
  show bodyR (Out.sq (loopF (fun _ => True) (gN 3) (allB gc) vs _ st) _) = _
  rw [q]
  rfl
theorem cut_none {v : D} (h : v ∈ ([.non, .int 0, .bl true, .lst [.str [102, 108, 111, 111, 114]], .tup [.str [45]]] : List D)) (st : Store) : isV v = true ∧ r_cut_groups [v] st = .er (eText (-1) 0) st := by
  have key : isV v = true ∧ fIsi [v, .ty "str"] st = some (.bl false) := by
    simp only [List.mem_cons, List.not_mem_nil, or_false] at h
    rcases h with rfl | rfl | rfl | rfl | rfl <;> exact ⟨rfl, by simp [fIsi, tyD]⟩
  refine ⟨key.1, ?_⟩
  show bodyR (m_cut_groups r_group_end (envE 5 ([v].map some)) st) = _
  rw [cut_env]
  unfold m_cut_groups
  simp only [x_seq]
  simp [x_var, vOf_of key.1, key.2, truD, negD, eText]

theorem w4_ok {st : Store} (B : Bx st) {ρ : Env} (h : Ev ρ) : w4 ρ st = .nx ρ st := by
  have ha := all_ok (gc := lamD false 1 [false, false, false, false, false, false, false, false, false, false, false, false, false, false, false, false] (mCall (fun ds st => if ds.length = 1 then p_cut_groups ds st else .no) (aCons (mVar 0) aNil)) ρ) (st := st) (i := -1) (j := 0) [.non, .int 0, .bl true, .lst [.str [102, 108, 111, 111, 114]], .tup [.str [45]]] (by
    intro v hv
    obtain ⟨h1, h2⟩ := cut_none hv st
    refine ⟨h1, ?_⟩
    have h3 : p_cut_groups [v] st = .er (eText (-1) 0) st := p_cut_er (x := []) B (by rw [h2, List.append_nil])
    show (aCons (mVar 0) aNil (some v :: maskL [false, false, false, false, false, false, false, false, false, false, false, false, false, false, false, false] ρ) st).bind (fun ds st => if ds.length = 1 then p_cut_groups ds st else .no) = _
    simp only [x_cons, x_var, List.getElem?_cons_zero, vOf_of h1, bind_ok, x_nil, x_cons1, x_cons2, List.length_cons, List.length_nil, if_true, h3])
  have args : aCons (mLst (aCons (mLit .non) (aCons (mLit (.int 0)) (aCons (mLit (.bl true)) (aCons (mLst (aCons (mLit (.str [102, 108, 111, 111, 114])) aNil)) (aCons (mTup (aCons (mLit (.str [45])) aNil)) aNil)))))) (aCons (mTup (aCons (mLit (.str [116, 101, 120, 116])) (aCons (mUn (fun x _ => negD x) (mLit (.int 1))) (aCons (mLit (.int 0)) aNil)))) aNil) ρ st = .ok [.lst [.non, .int 0, .bl true, .lst [.str [102, 108, 111, 111, 114]], .tup [.str [45]]], .tup [.str [116, 101, 120, 116], .int (-1), .int 0]] st := by simp [Sz, negD]
  unfold w4
  simp only [x_sif, x_tNot, x_tVal, mLam, args, bind_ok, List.length_cons, List.length_nil, Nat.zero_add, Nat.reduceAdd, if_true, ha, x_tVal1, truD, x_tNot1, sBind_ok, Bool.not_true, x_sifF, x_next, x_ofS]
theorem w5_ok {st : Store} (B : Bx st) (ρ : Env) : w5 ρ st = .rt (.bl true) st := by
  have c1 := p_cut_ok B .nil (by simp) (by simp) (by simp)
  have c1' : p_cut_groups [.str []] st = .ok (.tup []) st := c1
  have i := is_same (d := .tup [.tup [], k_READINGS]) st rfl
  unfold w5
  unfold k_READINGS at *
  simp [Sz, c1', i]
theorem law_true (ns : List Int) (h1 : ns.length ≤ 63) (h2 : ∀ z ∈ ns, PySem.Builtin.Int.intBits z ≤ 1048576) : ∃ st, gLaw [.scr ns] [] = .ok (.bl true) st := by
  obtain ⟨st, e0, B⟩ := box1 ns
  have en : envE 16 ([D.scr ns].map some) = [some (.scr ns), none, none, none, none, none, none, none, none, none, none, none, none, none, none, none] := rfl
  have a0 : w0 [some (.scr ns), none, none, none, none, none, none, none, none, none, none, none, none, none, none, none] [] = .nx [some (.scr ns), some (.ref 1), none, none, none, none, none, none, none, none, none, none, none, none, none, none] st := by
    unfold w0
    simp [x_var, e0]
  obtain ⟨ρ1, st1, a1, v1, B1⟩ := out_all (ρ := [some (.scr ns), some (.ref 1), none, none, none, none, none, none, none, none, none, none, none, none, none, none]) ⟨_, _, _, _, _, _, _, _, _, _, _, _, _, _, _, rfl⟩ B
  obtain ⟨ρ2, a2, v2⟩ := w2_all v1 B1
  obtain ⟨ρ3, a3, v3⟩ := w3_all v2 B1
  refine ⟨st1, ?_⟩
  show r_law [.scr ns] [] = _
  rw [w_all, en, x_seq, a0, sq_nx, x_seq, a1, sq_nx, x_seq, a2, sq_nx, x_seq, a3, sq_nx, x_seq, w4_ok B1 v3, sq_nx, w5_ok B1]
  rfl
end K01
set_option Elab.async false
set_option linter.all false
set_option autoImplicit false
set_option maxRecDepth 100000
set_option maxHeartbeats 4000000
namespace K01
open PySem PySem.Spec PyProof.Rows L2 Bw LamX
theorem rec__law_is {P : Program} {w : World} {K : PySem.W.Frag} {mg : Str → Option Value} {base : Heap} {A : Ad} {T : List (Addr × Str)} (Y : Kn P w K mg A) : ∀ k : Nat, FnOk P w K mg base (L2.CX P w) k A.a__law_is A.d__law_is ["told", "due"] (spB ⟨K, mg⟩ T 2 (r__law_is k))
  | 0 => bw0
  | k + 1 => ok__law_is Y (rec__law_is Y k)
theorem law_fn {P : Program} {w : World} {K : PySem.W.Frag} {mg : Str → Option Value} {base : Heap} {A : Ad} (Y : Kn P w K mg A) (TB__law_all : TabB base mg A.ca__law_all A.ct__law_all) (TB_law : TabB base mg A.ca_law A.ct_law) (hne : A.ct__law_all ≠ A.ct_law) :
    FnOk P w K mg base (L2.CX P w) 14 A.a_law A.d_law ["script"] (spB ⟨K, mg⟩ [(A.ct__law_all, lq "_law_all"), (A.ct_law, lq "law")] 1 gLaw) := by
  have G_row_end := ok_row_end (T := [(A.ct__law_all, lq "_law_all"), (A.ct_law, lq "law")]) (base := base) Y
  have G_group_end := ok_group_end (T := [(A.ct__law_all, lq "_law_all"), (A.ct_law, lq "law")]) (base := base) Y G_row_end
  have G_cut_groups := spB.weak (ok_cut_groups (T := [(A.ct__law_all, lq "_law_all"), (A.ct_law, lq "law")]) (base := base) Y G_group_end) fun ds st _ => forget_sub r_cut_groups ds st
  have G__law_box := ok__law_box (T := [(A.ct__law_all, lq "_law_all"), (A.ct_law, lq "law")]) (base := base) Y
  have G__law_take := ok__law_take (T := [(A.ct__law_all, lq "_law_all"), (A.ct_law, lq "law")]) (base := base) Y
  have G__law_pick := ok__law_pick (T := [(A.ct__law_all, lq "_law_all"), (A.ct_law, lq "law")]) (base := base) Y G__law_take
  have G__law_is := rec__law_is (T := [(A.ct__law_all, lq "_law_all"), (A.ct_law, lq "law")]) (base := base) Y 8
  have H__law_error := ok__law_error (T := [(A.ct__law_all, lq "_law_all"), (A.ct_law, lq "law")]) (base := base) Y
  have H__law_all := ok__law_all (T := [(A.ct__law_all, lq "_law_all"), (A.ct_law, lq "law")]) (base := base) Y G__law_is H__law_error TB__law_all (by simp) (List.forall_mem_cons.mpr ⟨fun _ => rfl, (List.forall_mem_cons.mpr ⟨fun e => absurd e.symm hne, (fun _ hq => nomatch hq)⟩)⟩)
  have G__law_wind := ok__law_wind (T := [(A.ct__law_all, lq "_law_all"), (A.ct_law, lq "law")]) (base := base) Y G__law_take
  have G__law_raw := spB.weak (ok__law_raw (T := [(A.ct__law_all, lq "_law_all"), (A.ct_law, lq "law")]) (base := base) Y G__law_take G__law_wind G__law_pick) fun ds st _ => forget_sub r__law_raw ds st
  have G__law_number := ok__law_number (T := [(A.ct__law_all, lq "_law_all"), (A.ct_law, lq "law")]) (base := base) Y
  have G__law_text := spB.weak (ok__law_text (T := [(A.ct__law_all, lq "_law_all"), (A.ct_law, lq "law")]) (base := base) Y G__law_number) fun ds st _ => forget_sub r__law_text ds st
  have G__law_groups := ok__law_groups (T := [(A.ct__law_all, lq "_law_all"), (A.ct_law, lq "law")]) (base := base) Y
  have G__law_tight := ok__law_tight (T := [(A.ct__law_all, lq "_law_all"), (A.ct_law, lq "law")]) (base := base) Y
  exact ok_law (T := [(A.ct__law_all, lq "_law_all"), (A.ct_law, lq "law")]) (base := base) Y G__law_box G__law_text G__law_raw G__law_groups G__law_is G_cut_groups G__law_tight G__law_pick G__law_take H__law_error H__law_all TB_law (by simp) (List.forall_mem_cons.mpr ⟨fun e => absurd e hne, (List.forall_mem_cons.mpr ⟨fun _ => rfl, (fun _ hq => nomatch hq)⟩)⟩)
theorem sh_InvalidText : Shape2 (inClass (top 2) 0) (Str.ofString "at") (Str.ofString "why") := ⟨_, _, _, _, _, _, _, _, _, _, _, _, _, _, _, rfl, rfl, rfl, rfl, rfl, rfl, rfl, rfl, rfl, rfl, by decide +kernel, fun _ _ _ _ _ _ _ _ _ _ => rfl, fun _ _ _ _ => ⟨fun _ => ⟨⟨_, rfl⟩, rfl⟩, fun _ => rfl, fun _ => rfl⟩⟩
theorem sh_InvalidFloor : Shape1 (inClass (top 3) 0) (Str.ofString "at") := ⟨_, _, _, _, _, _, _, _, _, _, rfl, rfl, rfl, rfl, rfl, rfl, rfl, rfl, rfl, by decide +kernel, fun _ _ _ _ _ _ _ _ _ => rfl, fun _ _ _ _ => ⟨fun _ => ⟨⟨_, rfl⟩, rfl⟩, fun _ => rfl⟩⟩
theorem all_mk {l : PySem.W.OpenLaw} {w : World} {K : PySem.W.Frag} {h : Heap} {mg : Str → Option Value} {fa : Addr} (X : K.In h) (G : h.Ns mainGlobals mg) (hfa : mg "law" = some (.ref fa))
    {t_FIGURES : Tok}
    {t_LETTERS : Tok}
    {t_MOST_TEXT : Tok}
    {t_MOST_GROUPS : Tok}
    {a_READINGS : Addr} {od_READINGS : Option Addr} {n_READINGS : Nat} {sl_READINGS : Array (Option Value)}
    {t_READINGS_0 : Tok}
    {t_READINGS_1 : Tok}
    {t_READINGS_2 : Tok}
    {t_READINGS_3 : Tok}
    {t_READINGS_4 : Tok}
    {f_row_end : Addr} {od_row_end an_row_end : Option Addr} {sl_row_end : Array (Option Value)} {oc_row_end kV_row_end dc_row_end pm_row_end ct_row_end : Value}
    {cd_row_end : Value}
    {f_group_end : Addr} {od_group_end an_group_end : Option Addr} {sl_group_end : Array (Option Value)} {oc_group_end kV_group_end dc_group_end pm_group_end ct_group_end : Value}
    {cd_group_end : Value}
    {f_cut_groups : Addr} {od_cut_groups an_cut_groups : Option Addr} {sl_cut_groups : Array (Option Value)} {oc_cut_groups kV_cut_groups dc_cut_groups pm_cut_groups ct_cut_groups : Value}
    {cd_cut_groups : Value}
    {f__law_box : Addr} {od__law_box an__law_box : Option Addr} {sl__law_box : Array (Option Value)} {oc__law_box kV__law_box dc__law_box pm__law_box ct__law_box : Value}
    {cd__law_box : Value}
    {f__law_take : Addr} {od__law_take an__law_take : Option Addr} {sl__law_take : Array (Option Value)} {oc__law_take kV__law_take dc__law_take pm__law_take ct__law_take : Value}
    {cd__law_take : Value}
    {f__law_pick : Addr} {od__law_pick an__law_pick : Option Addr} {sl__law_pick : Array (Option Value)} {oc__law_pick kV__law_pick dc__law_pick pm__law_pick ct__law_pick : Value}
    {cd__law_pick : Value}
    {f__law_is : Addr} {od__law_is an__law_is : Option Addr} {sl__law_is : Array (Option Value)} {oc__law_is kV__law_is dc__law_is pm__law_is ct__law_is : Value}
    {cd__law_is : Value}
    {f__law_all : Addr} {od__law_all an__law_all : Option Addr} {sl__law_all : Array (Option Value)} {oc__law_all kV__law_all dc__law_all pm__law_all ct__law_all : Value}
    {ca__law_all : Addr}
    {f__law_error : Addr} {od__law_error an__law_error : Option Addr} {sl__law_error : Array (Option Value)} {oc__law_error kV__law_error dc__law_error pm__law_error ct__law_error : Value}
    {cd__law_error : Value}
    {f__law_wind : Addr} {od__law_wind an__law_wind : Option Addr} {sl__law_wind : Array (Option Value)} {oc__law_wind kV__law_wind dc__law_wind pm__law_wind ct__law_wind : Value}
    {cd__law_wind : Value}
    {f__law_raw : Addr} {od__law_raw an__law_raw : Option Addr} {sl__law_raw : Array (Option Value)} {oc__law_raw kV__law_raw dc__law_raw pm__law_raw ct__law_raw : Value}
    {cd__law_raw : Value}
    {f__law_number : Addr} {od__law_number an__law_number : Option Addr} {sl__law_number : Array (Option Value)} {oc__law_number kV__law_number dc__law_number pm__law_number ct__law_number : Value}
    {cd__law_number : Value}
    {f__law_text : Addr} {od__law_text an__law_text : Option Addr} {sl__law_text : Array (Option Value)} {oc__law_text kV__law_text dc__law_text pm__law_text ct__law_text : Value}
    {cd__law_text : Value}
    {f__law_groups : Addr} {od__law_groups an__law_groups : Option Addr} {sl__law_groups : Array (Option Value)} {oc__law_groups kV__law_groups dc__law_groups pm__law_groups ct__law_groups : Value}
    {cd__law_groups : Value}
    {f__law_tight : Addr} {od__law_tight an__law_tight : Option Addr} {sl__law_tight : Array (Option Value)} {oc__law_tight kV__law_tight dc__law_tight pm__law_tight ct__law_tight : Value}
    {cd__law_tight : Value}
    {f_law : Addr} {od_law an_law : Option Addr} {sl_law : Array (Option Value)} {oc_law kV_law dc_law pm_law ct_law : Value}
    {ca_law : Addr}
    {tb__law_all : Addr}
    {tb_law : Addr}
    {C_InvalidText i_InvalidText cc_InvalidText co_InvalidText : Addr} {nm_InvalidText q_InvalidText : Str} {N_InvalidText : Addr} {bs_InvalidText : List Value} {sn_InvalidText : List Str} {sub_InvalidText : List Value} {ab_InvalidText : Bool} {col_InvalidText : Option Bool} {dd_InvalidText : Option Addr} {m0_InvalidText m1_InvalidText m2_InvalidText m3_InvalidText m5_InvalidText : Option Value}
    {B0_InvalidText : Addr}
    {cl_InvalidText : Value} {cld_InvalidText : Option Addr} {csl_InvalidText : Array (Option Value)} {ccl_InvalidText : Value} {cdd_InvalidText : Option Addr} {vs_InvalidText : Array Value} {ccs_InvalidText : Array (Option Value)} {fl_InvalidText : Str} {tf_InvalidText : Tok} {ioc_InvalidText idc_InvalidText ipm_InvalidText ict_InvalidText : Value} {iod_InvalidText ian_InvalidText : Option Addr} {isl_InvalidText : Array (Option Value)}
    {C_InvalidFloor i_InvalidFloor cc_InvalidFloor co_InvalidFloor : Addr} {nm_InvalidFloor q_InvalidFloor : Str} {N_InvalidFloor : Addr} {bs_InvalidFloor : List Value} {sn_InvalidFloor : List Str} {sub_InvalidFloor : List Value} {ab_InvalidFloor : Bool} {col_InvalidFloor : Option Bool} {dd_InvalidFloor : Option Addr} {m0_InvalidFloor m1_InvalidFloor m2_InvalidFloor m3_InvalidFloor m5_InvalidFloor : Option Value}
    {B0_InvalidFloor : Addr}
    {cl_InvalidFloor : Value} {cld_InvalidFloor : Option Addr} {csl_InvalidFloor : Array (Option Value)} {ccl_InvalidFloor : Value} {cdd_InvalidFloor : Option Addr} {vs_InvalidFloor : Array Value} {ccs_InvalidFloor : Array (Option Value)} {fl_InvalidFloor : Str} {tf_InvalidFloor : Tok} {ioc_InvalidFloor idc_InvalidFloor ipm_InvalidFloor ict_InvalidFloor : Value} {iod_InvalidFloor ian_InvalidFloor : Option Addr} {isl_InvalidFloor : Array (Option Value)}
    (z_len : PySem.W.nsIn K mainGlobals "len" = some none)
    (z_FIGURES : PySem.W.nsIn K mainGlobals "FIGURES" = some (some (.str "0123456789" t_FIGURES)))
    (z_LETTERS : PySem.W.nsIn K mainGlobals "LETTERS" = some (some (.str "abcdefghijklmnopqrstuvwxyz" t_LETTERS)))
    (z_isinstance : PySem.W.nsIn K mainGlobals "isinstance" = some none)
    (z_str : PySem.W.nsIn K mainGlobals "str" = some none)
    (z_MOST_TEXT : PySem.W.nsIn K mainGlobals "MOST_TEXT" = some (some (.int 60000 t_MOST_TEXT)))
    (z_enumerate : PySem.W.nsIn K mainGlobals "enumerate" = some none)
    (z_MOST_GROUPS : PySem.W.nsIn K mainGlobals "MOST_GROUPS" = some (some (.int 4000 t_MOST_GROUPS)))
    (z_tuple : PySem.W.nsIn K mainGlobals "tuple" = some none)
    (z_abs : PySem.W.nsIn K mainGlobals "abs" = some none)
    (z_int : PySem.W.nsIn K mainGlobals "int" = some none)
    (z_zip : PySem.W.nsIn K mainGlobals "zip" = some none)
    (z_bool : PySem.W.nsIn K mainGlobals "bool" = some none)
    (z_range : PySem.W.nsIn K mainGlobals "range" = some none)
    (z_READINGS : PySem.W.nsIn K mainGlobals "READINGS" = some (some (.ref a_READINGS)))
    (l_READINGS : K.lookup a_READINGS = some ⟨.type "tuple", od_READINGS, .seq #[.str "no text" t_READINGS_0, .str "no such sign" t_READINGS_1, .str "too many groups" t_READINGS_2, .str "too long" t_READINGS_3, .str "not this here" t_READINGS_4] n_READINGS, sl_READINGS⟩)
    (a_row_end : PySem.W.nsIn K mainGlobals "row_end" = some (some (.ref f_row_end)))
    (l_row_end : K.lookup f_row_end = some ⟨oc_row_end, od_row_end, .func (PySem.W.fnOf "row_end" "row_end" (defArgs s_row_end) (defBody s_row_end) (defScope s_row_end) .none kV_row_end dc_row_end pm_row_end an_row_end cd_row_end ct_row_end), sl_row_end⟩)
    (q_row_end : PySem.W.codeIn K cd_row_end "row_end" = true)
    (k_row_end : PySem.W.keepIn K (.ref f_row_end) = true)
    (a_group_end : PySem.W.nsIn K mainGlobals "group_end" = some (some (.ref f_group_end)))
    (l_group_end : K.lookup f_group_end = some ⟨oc_group_end, od_group_end, .func (PySem.W.fnOf "group_end" "group_end" (defArgs s_group_end) (defBody s_group_end) (defScope s_group_end) .none kV_group_end dc_group_end pm_group_end an_group_end cd_group_end ct_group_end), sl_group_end⟩)
    (q_group_end : PySem.W.codeIn K cd_group_end "group_end" = true)
    (k_group_end : PySem.W.keepIn K (.ref f_group_end) = true)
    (a_cut_groups : PySem.W.nsIn K mainGlobals "cut_groups" = some (some (.ref f_cut_groups)))
    (l_cut_groups : K.lookup f_cut_groups = some ⟨oc_cut_groups, od_cut_groups, .func (PySem.W.fnOf "cut_groups" "cut_groups" (defArgs s_cut_groups) (defBody s_cut_groups) (defScope s_cut_groups) .none kV_cut_groups dc_cut_groups pm_cut_groups an_cut_groups cd_cut_groups ct_cut_groups), sl_cut_groups⟩)
    (q_cut_groups : PySem.W.codeIn K cd_cut_groups "cut_groups" = true)
    (k_cut_groups : PySem.W.keepIn K (.ref f_cut_groups) = true)
    (a__law_box : PySem.W.nsIn K mainGlobals "_law_box" = some (some (.ref f__law_box)))
    (l__law_box : K.lookup f__law_box = some ⟨oc__law_box, od__law_box, .func (PySem.W.fnOf "_law_box" "_law_box" (defArgs s__law_box) (defBody s__law_box) (defScope s__law_box) .none kV__law_box dc__law_box pm__law_box an__law_box cd__law_box ct__law_box), sl__law_box⟩)
    (q__law_box : PySem.W.codeIn K cd__law_box "_law_box" = true)
    (k__law_box : PySem.W.keepIn K (.ref f__law_box) = true)
    (a__law_take : PySem.W.nsIn K mainGlobals "_law_take" = some (some (.ref f__law_take)))
    (l__law_take : K.lookup f__law_take = some ⟨oc__law_take, od__law_take, .func (PySem.W.fnOf "_law_take" "_law_take" (defArgs s__law_take) (defBody s__law_take) (defScope s__law_take) .none kV__law_take dc__law_take pm__law_take an__law_take cd__law_take ct__law_take), sl__law_take⟩)
    (q__law_take : PySem.W.codeIn K cd__law_take "_law_take" = true)
    (k__law_take : PySem.W.keepIn K (.ref f__law_take) = true)
    (a__law_pick : PySem.W.nsIn K mainGlobals "_law_pick" = some (some (.ref f__law_pick)))
    (l__law_pick : K.lookup f__law_pick = some ⟨oc__law_pick, od__law_pick, .func (PySem.W.fnOf "_law_pick" "_law_pick" (defArgs s__law_pick) (defBody s__law_pick) (defScope s__law_pick) .none kV__law_pick dc__law_pick pm__law_pick an__law_pick cd__law_pick ct__law_pick), sl__law_pick⟩)
    (q__law_pick : PySem.W.codeIn K cd__law_pick "_law_pick" = true)
    (k__law_pick : PySem.W.keepIn K (.ref f__law_pick) = true)
    (a__law_is : PySem.W.nsIn K mainGlobals "_law_is" = some (some (.ref f__law_is)))
    (l__law_is : K.lookup f__law_is = some ⟨oc__law_is, od__law_is, .func (PySem.W.fnOf "_law_is" "_law_is" (defArgs s__law_is) (defBody s__law_is) (defScope s__law_is) .none kV__law_is dc__law_is pm__law_is an__law_is cd__law_is ct__law_is), sl__law_is⟩)
    (q__law_is : PySem.W.codeIn K cd__law_is "_law_is" = true)
    (k__law_is : PySem.W.keepIn K (.ref f__law_is) = true)
    (a__law_all : PySem.W.nsIn K mainGlobals "_law_all" = some (some (.ref f__law_all)))
    (l__law_all : K.lookup f__law_all = some ⟨oc__law_all, od__law_all, .func (PySem.W.fnOf "_law_all" "_law_all" (defArgs s__law_all) (defBody s__law_all) (defScope s__law_all) .none kV__law_all dc__law_all pm__law_all an__law_all (.ref ca__law_all) ct__law_all), sl__law_all⟩)
    (q__law_all : PySem.W.codeIn K (.ref ca__law_all) "_law_all" = true)
    (k__law_all : PySem.W.keepIn K (.ref f__law_all) = true)
    (a__law_error : PySem.W.nsIn K mainGlobals "_law_error" = some (some (.ref f__law_error)))
    (l__law_error : K.lookup f__law_error = some ⟨oc__law_error, od__law_error, .func (PySem.W.fnOf "_law_error" "_law_error" (defArgs s__law_error) (defBody s__law_error) (defScope s__law_error) .none kV__law_error dc__law_error pm__law_error an__law_error cd__law_error ct__law_error), sl__law_error⟩)
    (q__law_error : PySem.W.codeIn K cd__law_error "_law_error" = true)
    (k__law_error : PySem.W.keepIn K (.ref f__law_error) = true)
    (a__law_wind : PySem.W.nsIn K mainGlobals "_law_wind" = some (some (.ref f__law_wind)))
    (l__law_wind : K.lookup f__law_wind = some ⟨oc__law_wind, od__law_wind, .func (PySem.W.fnOf "_law_wind" "_law_wind" (defArgs s__law_wind) (defBody s__law_wind) (defScope s__law_wind) .none kV__law_wind dc__law_wind pm__law_wind an__law_wind cd__law_wind ct__law_wind), sl__law_wind⟩)
    (q__law_wind : PySem.W.codeIn K cd__law_wind "_law_wind" = true)
    (k__law_wind : PySem.W.keepIn K (.ref f__law_wind) = true)
    (a__law_raw : PySem.W.nsIn K mainGlobals "_law_raw" = some (some (.ref f__law_raw)))
    (l__law_raw : K.lookup f__law_raw = some ⟨oc__law_raw, od__law_raw, .func (PySem.W.fnOf "_law_raw" "_law_raw" (defArgs s__law_raw) (defBody s__law_raw) (defScope s__law_raw) .none kV__law_raw dc__law_raw pm__law_raw an__law_raw cd__law_raw ct__law_raw), sl__law_raw⟩)
    (q__law_raw : PySem.W.codeIn K cd__law_raw "_law_raw" = true)
    (k__law_raw : PySem.W.keepIn K (.ref f__law_raw) = true)
    (a__law_number : PySem.W.nsIn K mainGlobals "_law_number" = some (some (.ref f__law_number)))
    (l__law_number : K.lookup f__law_number = some ⟨oc__law_number, od__law_number, .func (PySem.W.fnOf "_law_number" "_law_number" (defArgs s__law_number) (defBody s__law_number) (defScope s__law_number) .none kV__law_number dc__law_number pm__law_number an__law_number cd__law_number ct__law_number), sl__law_number⟩)
    (q__law_number : PySem.W.codeIn K cd__law_number "_law_number" = true)
    (k__law_number : PySem.W.keepIn K (.ref f__law_number) = true)
    (a__law_text : PySem.W.nsIn K mainGlobals "_law_text" = some (some (.ref f__law_text)))
    (l__law_text : K.lookup f__law_text = some ⟨oc__law_text, od__law_text, .func (PySem.W.fnOf "_law_text" "_law_text" (defArgs s__law_text) (defBody s__law_text) (defScope s__law_text) .none kV__law_text dc__law_text pm__law_text an__law_text cd__law_text ct__law_text), sl__law_text⟩)
    (q__law_text : PySem.W.codeIn K cd__law_text "_law_text" = true)
    (k__law_text : PySem.W.keepIn K (.ref f__law_text) = true)
    (a__law_groups : PySem.W.nsIn K mainGlobals "_law_groups" = some (some (.ref f__law_groups)))
    (l__law_groups : K.lookup f__law_groups = some ⟨oc__law_groups, od__law_groups, .func (PySem.W.fnOf "_law_groups" "_law_groups" (defArgs s__law_groups) (defBody s__law_groups) (defScope s__law_groups) .none kV__law_groups dc__law_groups pm__law_groups an__law_groups cd__law_groups ct__law_groups), sl__law_groups⟩)
    (q__law_groups : PySem.W.codeIn K cd__law_groups "_law_groups" = true)
    (k__law_groups : PySem.W.keepIn K (.ref f__law_groups) = true)
    (a__law_tight : PySem.W.nsIn K mainGlobals "_law_tight" = some (some (.ref f__law_tight)))
    (l__law_tight : K.lookup f__law_tight = some ⟨oc__law_tight, od__law_tight, .func (PySem.W.fnOf "_law_tight" "_law_tight" (defArgs s__law_tight) (defBody s__law_tight) (defScope s__law_tight) .none kV__law_tight dc__law_tight pm__law_tight an__law_tight cd__law_tight ct__law_tight), sl__law_tight⟩)
    (q__law_tight : PySem.W.codeIn K cd__law_tight "_law_tight" = true)
    (k__law_tight : PySem.W.keepIn K (.ref f__law_tight) = true)
    (a_law : PySem.W.nsIn K mainGlobals "law" = some (some (.ref f_law)))
    (l_law : K.lookup f_law = some ⟨oc_law, od_law, .func (PySem.W.fnOf "law" "law" (defArgs s_law) (defBody s_law) (defScope s_law) .none kV_law dc_law pm_law an_law (.ref ca_law) ct_law), sl_law⟩)
    (q_law : PySem.W.codeIn K (.ref ca_law) "law" = true)
    (k_law : PySem.W.keepIn K (.ref f_law) = true)
    (t__law_all : PySem.W.codeHdIn K ca__law_all tb__law_all = true)
    (u__law_all : K.lookup tb__law_all = none)
    (t_law : PySem.W.codeHdIn K ca_law tb_law = true)
    (u_law : K.lookup tb_law = none)
    (hne : tb__law_all ≠ tb_law)
    (aC_InvalidText : PySem.W.nsIn K mainGlobals (Str.ofString "InvalidText") = some (some (.ref C_InvalidText)))
    (lC_InvalidText : K.lookup C_InvalidText = some (PySem.excClassObj nm_InvalidText q_InvalidText C_InvalidText N_InvalidText bs_InvalidText [.ref B0_InvalidText, .type "Exception", .type "BaseException", .type "object"] true sn_InvalidText sub_InvalidText ab_InvalidText col_InvalidText dd_InvalidText m0_InvalidText m1_InvalidText m2_InvalidText m3_InvalidText m5_InvalidText "Exception.__new__"))
    (oC_InvalidText : PySem.W.mroIn K C_InvalidText (.type "object") = some true)
    (sa_InvalidText : PySem.W.findIn K (.ref C_InvalidText) "__setattr__" = some (some (.builtin "object.__setattr__")))
    (ga_InvalidText : PySem.W.findIn K (.ref C_InvalidText) "__getattribute__" = some (some (.builtin "BaseException.__getattribute__")))
    (gq_InvalidText : PySem.W.findIn K (.ref C_InvalidText) "__getattr__" = some none)
    (ini_InvalidText : PySem.W.findIn K (.ref C_InvalidText) "__init__" = some (some (.ref i_InvalidText)))
    (tI_InvalidText : PySem.W.typeIn K (.ref i_InvalidText) = some (.type "function"))
    (kp_InvalidText : PySem.W.keepIn K (.ref C_InvalidText) = true)
    (bs2_InvalidText : PySem.W.subIn K (.ref C_InvalidText) (.type "BaseException") = some true)
    (xs_InvalidText : PySem.W.subIn K (.ref C_InvalidText) (.type "Exception") = some true)
    (ty_InvalidText : PySem.W.typeIn K (.ref C_InvalidText) = some (.type "type"))
    (hd_InvalidText : PySem.W.hasDictIn K C_InvalidText = true)
    (up_InvalidText : PySem.W.ks_superIn K C_InvalidText C_InvalidText "__init__" = some (some (.builtin "Exception.__init__")))
    (me_InvalidText : PySem.W.mroIn K C_InvalidText (.ref C_InvalidText) = some true)
    (li_InvalidText : K.lookup i_InvalidText = some ⟨ioc_InvalidText, iod_InvalidText, .func (PySem.W.ksFn "__init__" "InvalidText.__init__" (defArgs (inClass (top 2) 0)) (defBody (inClass (top 2) 0)) (defScope (inClass (top 2) 0)) .none .none idc_InvalidText ipm_InvalidText ian_InvalidText (.ref co_InvalidText) ict_InvalidText cc_InvalidText), isl_InvalidText⟩)
    (cq_InvalidText : PySem.W.codeIn K (.ref co_InvalidText) "InvalidText.__init__" = true)
    (ce_InvalidText : K.lookup cc_InvalidText = some ⟨cl_InvalidText, cld_InvalidText, .cell (some (.ref C_InvalidText)), csl_InvalidText⟩)
    (co2_InvalidText : K.lookup co_InvalidText = some ⟨ccl_InvalidText, cdd_InvalidText, .fields vs_InvalidText, ccs_InvalidText⟩)
    (cv_InvalidText : vs_InvalidText[2]? = some (.str fl_InvalidText tf_InvalidText))
    (cf_InvalidText : ((l.prog.main.file : Str) == fl_InvalidText) = true)
    (n_InvalidText_at : PySem.W.findIn K (.ref C_InvalidText) (Str.ofString "at") = some none)
    (n_InvalidText_why : PySem.W.findIn K (.ref C_InvalidText) (Str.ofString "why") = some none)
    (aC_InvalidFloor : PySem.W.nsIn K mainGlobals (Str.ofString "InvalidFloor") = some (some (.ref C_InvalidFloor)))
    (lC_InvalidFloor : K.lookup C_InvalidFloor = some (PySem.excClassObj nm_InvalidFloor q_InvalidFloor C_InvalidFloor N_InvalidFloor bs_InvalidFloor [.ref B0_InvalidFloor, .type "Exception", .type "BaseException", .type "object"] true sn_InvalidFloor sub_InvalidFloor ab_InvalidFloor col_InvalidFloor dd_InvalidFloor m0_InvalidFloor m1_InvalidFloor m2_InvalidFloor m3_InvalidFloor m5_InvalidFloor "Exception.__new__"))
    (oC_InvalidFloor : PySem.W.mroIn K C_InvalidFloor (.type "object") = some true)
    (sa_InvalidFloor : PySem.W.findIn K (.ref C_InvalidFloor) "__setattr__" = some (some (.builtin "object.__setattr__")))
    (ga_InvalidFloor : PySem.W.findIn K (.ref C_InvalidFloor) "__getattribute__" = some (some (.builtin "BaseException.__getattribute__")))
    (gq_InvalidFloor : PySem.W.findIn K (.ref C_InvalidFloor) "__getattr__" = some none)
    (ini_InvalidFloor : PySem.W.findIn K (.ref C_InvalidFloor) "__init__" = some (some (.ref i_InvalidFloor)))
    (tI_InvalidFloor : PySem.W.typeIn K (.ref i_InvalidFloor) = some (.type "function"))
    (kp_InvalidFloor : PySem.W.keepIn K (.ref C_InvalidFloor) = true)
    (bs2_InvalidFloor : PySem.W.subIn K (.ref C_InvalidFloor) (.type "BaseException") = some true)
    (xs_InvalidFloor : PySem.W.subIn K (.ref C_InvalidFloor) (.type "Exception") = some true)
    (ty_InvalidFloor : PySem.W.typeIn K (.ref C_InvalidFloor) = some (.type "type"))
    (hd_InvalidFloor : PySem.W.hasDictIn K C_InvalidFloor = true)
    (up_InvalidFloor : PySem.W.ks_superIn K C_InvalidFloor C_InvalidFloor "__init__" = some (some (.builtin "Exception.__init__")))
    (me_InvalidFloor : PySem.W.mroIn K C_InvalidFloor (.ref C_InvalidFloor) = some true)
    (li_InvalidFloor : K.lookup i_InvalidFloor = some ⟨ioc_InvalidFloor, iod_InvalidFloor, .func (PySem.W.ksFn "__init__" "InvalidFloor.__init__" (defArgs (inClass (top 3) 0)) (defBody (inClass (top 3) 0)) (defScope (inClass (top 3) 0)) .none .none idc_InvalidFloor ipm_InvalidFloor ian_InvalidFloor (.ref co_InvalidFloor) ict_InvalidFloor cc_InvalidFloor), isl_InvalidFloor⟩)
    (cq_InvalidFloor : PySem.W.codeIn K (.ref co_InvalidFloor) "InvalidFloor.__init__" = true)
    (ce_InvalidFloor : K.lookup cc_InvalidFloor = some ⟨cl_InvalidFloor, cld_InvalidFloor, .cell (some (.ref C_InvalidFloor)), csl_InvalidFloor⟩)
    (co2_InvalidFloor : K.lookup co_InvalidFloor = some ⟨ccl_InvalidFloor, cdd_InvalidFloor, .fields vs_InvalidFloor, ccs_InvalidFloor⟩)
    (cv_InvalidFloor : vs_InvalidFloor[2]? = some (.str fl_InvalidFloor tf_InvalidFloor))
    (cf_InvalidFloor : ((l.prog.main.file : Str) == fl_InvalidFloor) = true)
    (n_InvalidFloor_at : PySem.W.findIn K (.ref C_InvalidFloor) (Str.ofString "at") = some none)
    (tpN : PySem.W.nsIn K cStatics "thirdparty.any" = some none)
    (noS : PySem.W.nsIn K mainGlobals "super" = some none)
    (noT : (l.prog.main.scope.names.lookup ("super" : Str)).isSome = false)
    (e_InvalidText_InvalidText : PySem.W.exmOne K (.ref C_InvalidText) (.ref C_InvalidText) = some true)
    (e_InvalidText_InvalidFloor : PySem.W.exmOne K (.ref C_InvalidText) (.ref C_InvalidFloor) = some false)
    (e_InvalidFloor_InvalidText : PySem.W.exmOne K (.ref C_InvalidFloor) (.ref C_InvalidText) = some false)
    (e_InvalidFloor_InvalidFloor : PySem.W.exmOne K (.ref C_InvalidFloor) (.ref C_InvalidFloor) = some true)
    (hT8 : ∀ P ∈ ([tb__law_all, tb_law] : List Addr), h.get? P = some (PySem.W.tabObj #[])) : LawAtS l w K (L2.CX l.prog w) 14 63 "script" mg fa h := by
  have efa : f_law = fa := by
    have q := (PySem.W.mg_of X G a_law).symm.trans hfa
    cases q
    rfl
  subst efa
  have xf_InvalidText : XF l.prog K "InvalidText" (inClass (top 2) 0) C_InvalidText i_InvalidText cc_InvalidText co_InvalidText "InvalidText.__init__" := ⟨aC_InvalidText, ⟨_, _, _, _, _, _, _, _, _, _, _, _, _, _, _, lC_InvalidText, rfl⟩, oC_InvalidText, sa_InvalidText, ga_InvalidText, gq_InvalidText, ini_InvalidText, tI_InvalidText, kp_InvalidText, bs2_InvalidText, xs_InvalidText, ty_InvalidText, hd_InvalidText, up_InvalidText, me_InvalidText, ⟨_, _, _, ce_InvalidText⟩, ⟨_, _, _, _, _, _, co2_InvalidText, cv_InvalidText, cf_InvalidText⟩, tpN, noS, noT, ⟨_, _, _, _, _, _, _, li_InvalidText⟩, cq_InvalidText⟩
  have xf_InvalidFloor : XF l.prog K "InvalidFloor" (inClass (top 3) 0) C_InvalidFloor i_InvalidFloor cc_InvalidFloor co_InvalidFloor "InvalidFloor.__init__" := ⟨aC_InvalidFloor, ⟨_, _, _, _, _, _, _, _, _, _, _, _, _, _, _, lC_InvalidFloor, rfl⟩, oC_InvalidFloor, sa_InvalidFloor, ga_InvalidFloor, gq_InvalidFloor, ini_InvalidFloor, tI_InvalidFloor, kp_InvalidFloor, bs2_InvalidFloor, xs_InvalidFloor, ty_InvalidFloor, hd_InvalidFloor, up_InvalidFloor, me_InvalidFloor, ⟨_, _, _, ce_InvalidFloor⟩, ⟨_, _, _, _, _, _, co2_InvalidFloor, cv_InvalidFloor, cf_InvalidFloor⟩, tpN, noS, noT, ⟨_, _, _, _, _, _, _, li_InvalidFloor⟩, cq_InvalidFloor⟩
  have exmOk : ExmOk K mg exm := by
    intro n1 n2 C1 C2 b h1 h2 h3
    unfold exm at h3
    split at h3
    all_goals (first | (cases h3; done) | (cases h3; rw [PySem.W.mg_of X G aC_InvalidText] at h1; rw [PySem.W.mg_of X G aC_InvalidText] at h2; cases h1; cases h2; exact e_InvalidText_InvalidText) | (cases h3; rw [PySem.W.mg_of X G aC_InvalidText] at h1; rw [PySem.W.mg_of X G aC_InvalidFloor] at h2; cases h1; cases h2; exact e_InvalidText_InvalidFloor) | (cases h3; rw [PySem.W.mg_of X G aC_InvalidFloor] at h1; rw [PySem.W.mg_of X G aC_InvalidText] at h2; cases h1; cases h2; exact e_InvalidFloor_InvalidText) | (cases h3; rw [PySem.W.mg_of X G aC_InvalidFloor] at h1; rw [PySem.W.mg_of X G aC_InvalidFloor] at h2; cases h1; cases h2; exact e_InvalidFloor_InvalidFloor))
  have Y : Kn l.prog w K mg ⟨f_row_end, _, f_group_end, _, f_cut_groups, _, f__law_box, _, f__law_take, _, f__law_pick, _, f__law_is, _, f__law_all, _, f__law_error, _, f__law_wind, _, f__law_raw, _, f__law_number, _, f__law_text, _, f__law_groups, _, f__law_tight, _, f_law, _, ca__law_all, tb__law_all, ca_law, tb_law, C_InvalidText, C_InvalidFloor⟩ := {
    b_len := PySem.W.mg_none_of X G z_len,
    c_FIGURES := ⟨t_FIGURES, (PySem.W.mg_of X G z_FIGURES).trans (congrArg (fun q => some (Value.str q t_FIGURES)) (show ("0123456789" : Str) = strOf [48, 49, 50, 51, 52, 53, 54, 55, 56, 57] by decide +kernel))⟩,
    c_LETTERS := ⟨t_LETTERS, (PySem.W.mg_of X G z_LETTERS).trans (congrArg (fun q => some (Value.str q t_LETTERS)) (show ("abcdefghijklmnopqrstuvwxyz" : Str) = strOf [97, 98, 99, 100, 101, 102, 103, 104, 105, 106, 107, 108, 109, 110, 111, 112, 113, 114, 115, 116, 117, 118, 119, 120, 121, 122] by decide +kernel))⟩,
    b_isinstance := PySem.W.mg_none_of X G z_isinstance,
    b_str := PySem.W.mg_none_of X G z_str,
    c_MOST_TEXT := ⟨_, PySem.W.mg_of X G z_MOST_TEXT⟩,
    b_enumerate := PySem.W.mg_none_of X G z_enumerate,
    c_MOST_GROUPS := ⟨_, PySem.W.mg_of X G z_MOST_GROUPS⟩,
    b_tuple := PySem.W.mg_none_of X G z_tuple,
    b_abs := PySem.W.mg_none_of X G z_abs,
    b_int := PySem.W.mg_none_of X G z_int,
    b_zip := PySem.W.mg_none_of X G z_zip,
    b_bool := PySem.W.mg_none_of X G z_bool,
    g_InvalidText_why := xf_InvalidText.gets X G n_InvalidText_why,
    g_InvalidText_at := xf_InvalidText.gets X G n_InvalidText_at,
    g_InvalidFloor_at := xf_InvalidFloor.gets X G n_InvalidFloor_at,
    b_range := PySem.W.mg_none_of X G z_range,
    c_READINGS := ⟨a_READINGS, PySem.W.mg_of X G z_READINGS, fun z => show Rp ⟨K, mg⟩ z (.ref a_READINGS) (.tup [(.str [110, 111, 32, 116, 101, 120, 116]), (.str [110, 111, 32, 115, 117, 99, 104, 32, 115, 105, 103, 110]), (.str [116, 111, 111, 32, 109, 97, 110, 121, 32, 103, 114, 111, 117, 112, 115]), (.str [116, 111, 111, 32, 108, 111, 110, 103]), (.str [110, 111, 116, 32, 116, 104, 105, 115, 32, 104, 101, 114, 101])]) from .tup (vs := [.str (strOf [110, 111, 32, 116, 101, 120, 116]), .str (strOf [110, 111, 32, 115, 117, 99, 104, 32, 115, 105, 103, 110]), .str (strOf [116, 111, 111, 32, 109, 97, 110, 121, 32, 103, 114, 111, 117, 112, 115]), .str (strOf [116, 111, 111, 32, 108, 111, 110, 103]), .str (strOf [110, 111, 116, 32, 116, 104, 105, 115, 32, 104, 101, 114, 101])]) (.inr ⟨_, _, _, l_READINGS, rfl, rfl, (show 5 ≤ sizeLine by decide), (.cons (rel_str (by decide +kernel)) (.cons (rel_str (by decide +kernel)) (.cons (rel_str (by decide +kernel)) (.cons (rel_str (by decide +kernel)) (.cons (rel_str (by decide +kernel)) .nil)))))⟩) (.cons (.str [110, 111, 32, 116, 101, 120, 116]) (.cons (.str [110, 111, 32, 115, 117, 99, 104, 32, 115, 105, 103, 110]) (.cons (.str [116, 111, 111, 32, 109, 97, 110, 121, 32, 103, 114, 111, 117, 112, 115]) (.cons (.str [116, 111, 111, 32, 108, 111, 110, 103]) (.cons (.str [110, 111, 116, 32, 116, 104, 105, 115, 32, 104, 101, 114, 101]) .nil)))))⟩,
    f_row_end := at_mk X G a_row_end l_row_end q_row_end k_row_end fun _ _ _ _ _ _ us hl => match us, hl with | [_, _, _], _ => rfl,
    f_group_end := at_mk X G a_group_end l_group_end q_group_end k_group_end fun _ _ _ _ _ _ us hl => match us, hl with | [_, _], _ => rfl,
    f_cut_groups := at_mk X G a_cut_groups l_cut_groups q_cut_groups k_cut_groups fun _ _ _ _ _ _ us hl => match us, hl with | [_], _ => rfl,
    f__law_box := at_mk X G a__law_box l__law_box q__law_box k__law_box fun _ _ _ _ _ _ us hl => match us, hl with | [_], _ => rfl,
    f__law_take := at_mk X G a__law_take l__law_take q__law_take k__law_take fun _ _ _ _ _ _ us hl => match us, hl with | [_, _], _ => rfl,
    f__law_pick := at_mk X G a__law_pick l__law_pick q__law_pick k__law_pick fun _ _ _ _ _ _ us hl => match us, hl with | [_, _], _ => rfl,
    f__law_is := at_mk X G a__law_is l__law_is q__law_is k__law_is fun _ _ _ _ _ _ us hl => match us, hl with | [_, _], _ => rfl,
    f__law_all := atC_mk X G a__law_all l__law_all q__law_all k__law_all fun _ _ _ _ _ _ us hl => match us, hl with | [_, _, _], _ => rfl,
    f__law_error := at_mk X G a__law_error l__law_error q__law_error k__law_error fun _ _ _ _ _ _ us hl => match us, hl with | [_], _ => rfl,
    f__law_wind := at_mk X G a__law_wind l__law_wind q__law_wind k__law_wind fun _ _ _ _ _ _ us hl => match us, hl with | [_, _], _ => rfl,
    f__law_raw := at_mk X G a__law_raw l__law_raw q__law_raw k__law_raw fun _ _ _ _ _ _ us hl => match us, hl with | [_, _], _ => rfl,
    f__law_number := at_mk X G a__law_number l__law_number q__law_number k__law_number fun _ _ _ _ _ _ us hl => match us, hl with | [_], _ => rfl,
    f__law_text := at_mk X G a__law_text l__law_text q__law_text k__law_text fun _ _ _ _ _ _ us hl => match us, hl with | [_], _ => rfl,
    f__law_groups := at_mk X G a__law_groups l__law_groups q__law_groups k__law_groups fun _ _ _ _ _ _ us hl => match us, hl with | [_], _ => rfl,
    f__law_tight := at_mk X G a__law_tight l__law_tight q__law_tight k__law_tight fun _ _ _ _ _ _ us hl => match us, hl with | [_], _ => rfl,
    f_law := atC_mk X G a_law l_law q_law k_law fun _ _ _ _ _ _ us hl => match us, hl with | [_], _ => rfl,
    x_InvalidText := xf_InvalidText.at2 X G sh_InvalidText n_InvalidText_at n_InvalidText_why,
    x_InvalidFloor := xf_InvalidFloor.at1 X G sh_InvalidFloor n_InvalidFloor_at,
    exm := exmOk }
  refine ⟨_, [(ca__law_all, tb__law_all), (ca_law, tb_law)], spB ⟨K, mg⟩ [(tb__law_all, lq "_law_all"), (tb_law, lq "law")] 1 gLaw, ?_, ?_, ?_, fun s u => .of_eq rfl, end_at ?_ law_true, fun base KB GB hTB => law_fn Y (hTB (ca__law_all, tb__law_all) (by simp)) (hTB (ca_law, tb_law) (by simp)) hne⟩
  · exact (List.forall_mem_cons.mpr ⟨hT8 tb__law_all (by simp), (List.forall_mem_cons.mpr ⟨hT8 tb_law (by simp), (fun _ hq => nomatch hq)⟩)⟩)
  · exact (List.forall_mem_cons.mpr ⟨u__law_all, (List.forall_mem_cons.mpr ⟨u_law, (fun _ hq => nomatch hq)⟩)⟩)
  · exact (List.forall_mem_cons.mpr ⟨PySem.W.codeHd_of_K X t__law_all, (List.forall_mem_cons.mpr ⟨PySem.W.codeHd_of_K X t_law, (fun _ hq => nomatch hq)⟩)⟩)
  · exact (List.forall_mem_cons.mpr ⟨⟨(ca__law_all, tb__law_all), by simp, rfl⟩, (List.forall_mem_cons.mpr ⟨⟨(ca_law, tb_law), by simp, rfl⟩, (fun _ hq => nomatch hq)⟩)⟩)
end K01
open PySem PySem.W PyProof.Rows in
set_option maxRecDepth 100000 in
set_option maxHeartbeats 0 in
theorem PySem.Challenge.cw_blownalong_k01_whole_texts_cut_into_grou_holds : PySem.Challenge.rw_blownalong_k01_whole_texts_cut_into_grou.Holds := by
  w_on; o_law; k_head; (case hw => w_witness2)
  k_fill
  refine LamX.walk_ofTs (l := PySem.Challenge.rw_blownalong_k01_whole_texts_cut_into_grou) (n := 63) (k := 14) (x := "script") (CX := fun w => L2.CX PySem.Challenge.rw_blownalong_k01_whole_texts_cut_into_grou.prog w) rfl (by decide) rfl ⟨rfl, by decide, by decide⟩ (fun w h Y => PySem.W.km_in_of Y) ?F ?E
  case E => exact fun _ _ _ _ _ z => Bw.end_cx z
  case F =>
    intro w mg fa h Y KX G hmg
    have hT8 := PySem.W.km_tabs_of Y
    refine' K01.all_mk (tb__law_all := 119) (tb_law := 171) KX G hmg ?z_len ?z_FIGURES ?z_LETTERS ?z_isinstance ?z_str ?z_MOST_TEXT ?z_enumerate ?z_MOST_GROUPS ?z_tuple ?z_abs ?z_int ?z_zip ?z_bool ?z_range ?z_READINGS ?l_READINGS ?a_row_end ?l_row_end ?q_row_end ?k_row_end ?a_group_end ?l_group_end ?q_group_end ?k_group_end ?a_cut_groups ?l_cut_groups ?q_cut_groups ?k_cut_groups ?a__law_box ?l__law_box ?q__law_box ?k__law_box ?a__law_take ?l__law_take ?q__law_take ?k__law_take ?a__law_pick ?l__law_pick ?q__law_pick ?k__law_pick ?a__law_is ?l__law_is ?q__law_is ?k__law_is ?a__law_all ?l__law_all ?q__law_all ?k__law_all ?a__law_error ?l__law_error ?q__law_error ?k__law_error ?a__law_wind ?l__law_wind ?q__law_wind ?k__law_wind ?a__law_raw ?l__law_raw ?q__law_raw ?k__law_raw ?a__law_number ?l__law_number ?q__law_number ?k__law_number ?a__law_text ?l__law_text ?q__law_text ?k__law_text ?a__law_groups ?l__law_groups ?q__law_groups ?k__law_groups ?a__law_tight ?l__law_tight ?q__law_tight ?k__law_tight ?a_law ?l_law ?q_law ?k_law ?t__law_all ?u__law_all ?t_law ?u_law ?hne ?aC_InvalidText ?lC_InvalidText ?oC_InvalidText ?sa_InvalidText ?ga_InvalidText ?gq_InvalidText ?ini_InvalidText ?tI_InvalidText ?kp_InvalidText ?bs2_InvalidText ?xs_InvalidText ?ty_InvalidText ?hd_InvalidText ?up_InvalidText ?me_InvalidText ?li_InvalidText ?cq_InvalidText ?ce_InvalidText ?co2_InvalidText ?cv_InvalidText ?cf_InvalidText ?n_InvalidText_at ?n_InvalidText_why ?aC_InvalidFloor ?lC_InvalidFloor ?oC_InvalidFloor ?sa_InvalidFloor ?ga_InvalidFloor ?gq_InvalidFloor ?ini_InvalidFloor ?tI_InvalidFloor ?kp_InvalidFloor ?bs2_InvalidFloor ?xs_InvalidFloor ?ty_InvalidFloor ?hd_InvalidFloor ?up_InvalidFloor ?me_InvalidFloor ?li_InvalidFloor ?cq_InvalidFloor ?ce_InvalidFloor ?co2_InvalidFloor ?cv_InvalidFloor ?cf_InvalidFloor ?n_InvalidFloor_at ?tpN ?noS ?noT ?e_InvalidText_InvalidText ?e_InvalidText_InvalidFloor ?e_InvalidFloor_InvalidText ?e_InvalidFloor_InvalidFloor hT8
    (case z_len => k_is)
    (case z_FIGURES => k_is)
    (case z_LETTERS => k_is)
    (case z_isinstance => k_is)
    (case z_str => k_is)
    (case z_MOST_TEXT => k_is)
    (case z_enumerate => k_is)
    (case z_MOST_GROUPS => k_is)
    (case z_tuple => k_is)
    (case z_abs => k_is)
    (case z_int => k_is)
    (case z_zip => k_is)
    (case z_bool => k_is)
    (case z_range => k_is)
    (case z_READINGS => k_is)
    (case l_READINGS => k_is)
    (case a_row_end => k_is)
    (case l_row_end => k_is)
    (case q_row_end => k_is)
    (case k_row_end => k_is)
    (case a_group_end => k_is)
    (case l_group_end => k_is)
    (case q_group_end => k_is)
    (case k_group_end => k_is)
    (case a_cut_groups => k_is)
    (case l_cut_groups => k_is)
    (case q_cut_groups => k_is)
    (case k_cut_groups => k_is)
    (case a__law_box => k_is)
    (case l__law_box => k_is)
    (case q__law_box => k_is)
    (case k__law_box => k_is)
    (case a__law_take => k_is)
    (case l__law_take => k_is)
    (case q__law_take => k_is)
    (case k__law_take => k_is)
    (case a__law_pick => k_is)
    (case l__law_pick => k_is)
    (case q__law_pick => k_is)
    (case k__law_pick => k_is)
    (case a__law_is => k_is)
    (case l__law_is => k_is)
    (case q__law_is => k_is)
    (case k__law_is => k_is)
    (case a__law_all => k_is)
    (case l__law_all => k_is)
    (case q__law_all => k_is)
    (case k__law_all => k_is)
    (case a__law_error => k_is)
    (case l__law_error => k_is)
    (case q__law_error => k_is)
    (case k__law_error => k_is)
    (case a__law_wind => k_is)
    (case l__law_wind => k_is)
    (case q__law_wind => k_is)
    (case k__law_wind => k_is)
    (case a__law_raw => k_is)
    (case l__law_raw => k_is)
    (case q__law_raw => k_is)
    (case k__law_raw => k_is)
    (case a__law_number => k_is)
    (case l__law_number => k_is)
    (case q__law_number => k_is)
    (case k__law_number => k_is)
    (case a__law_text => k_is)
    (case l__law_text => k_is)
    (case q__law_text => k_is)
    (case k__law_text => k_is)
    (case a__law_groups => k_is)
    (case l__law_groups => k_is)
    (case q__law_groups => k_is)
    (case k__law_groups => k_is)
    (case a__law_tight => k_is)
    (case l__law_tight => k_is)
    (case q__law_tight => k_is)
    (case k__law_tight => k_is)
    (case a_law => k_is)
    (case l_law => k_is)
    (case q_law => k_is)
    (case k_law => k_is)
    (case t__law_all => kernel_rfl)
    (case u__law_all => kernel_rfl)
    (case t_law => kernel_rfl)
    (case u_law => kernel_rfl)
    (case hne => decide)
    (case aC_InvalidText => k_is)
    (case lC_InvalidText => k_is)
    (case oC_InvalidText => k_is)
    (case sa_InvalidText => k_is)
    (case ga_InvalidText => k_is)
    (case gq_InvalidText => k_is)
    (case ini_InvalidText => k_is)
    (case tI_InvalidText => k_is)
    (case kp_InvalidText => k_is)
    (case bs2_InvalidText => k_is)
    (case xs_InvalidText => k_is)
    (case ty_InvalidText => k_is)
    (case hd_InvalidText => k_is)
    (case up_InvalidText => kernel_rfl)
    (case me_InvalidText => k_is)
    (case li_InvalidText => k_is)
    (case cq_InvalidText => k_is)
    (case ce_InvalidText => k_is)
    (case co2_InvalidText => k_is)
    (case cv_InvalidText => rfl)
    (case cf_InvalidText => first | rfl | decide +kernel)
    (case n_InvalidText_at => k_is)
    (case n_InvalidText_why => k_is)
    (case aC_InvalidFloor => k_is)
    (case lC_InvalidFloor => k_is)
    (case oC_InvalidFloor => k_is)
    (case sa_InvalidFloor => k_is)
    (case ga_InvalidFloor => k_is)
    (case gq_InvalidFloor => k_is)
    (case ini_InvalidFloor => k_is)
    (case tI_InvalidFloor => k_is)
    (case kp_InvalidFloor => k_is)
    (case bs2_InvalidFloor => k_is)
    (case xs_InvalidFloor => k_is)
    (case ty_InvalidFloor => k_is)
    (case hd_InvalidFloor => k_is)
    (case up_InvalidFloor => kernel_rfl)
    (case me_InvalidFloor => k_is)
    (case li_InvalidFloor => k_is)
    (case cq_InvalidFloor => k_is)
    (case ce_InvalidFloor => k_is)
    (case co2_InvalidFloor => k_is)
    (case cv_InvalidFloor => rfl)
    (case cf_InvalidFloor => first | rfl | decide +kernel)
    (case n_InvalidFloor_at => k_is)
    (case tpN => k_is)
    (case noS => k_is)
    (case noT => first | rfl | decide +kernel)
    (case e_InvalidText_InvalidText => kernel_rfl)
    (case e_InvalidText_InvalidFloor => kernel_rfl)
    (case e_InvalidFloor_InvalidText => kernel_rfl)
    (case e_InvalidFloor_InvalidFloor => kernel_rfl)
