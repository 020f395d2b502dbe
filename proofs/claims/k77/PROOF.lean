import PyProof.Rows.All
import Wide.All
import OpenK.AllK
import Wide.FinOn
import HandS.ForMost
import HandS.Wide
import HandS.IsInst
import HandS.Defaults
import HandS.Exc
import HandS.ExcOwn
import HandS.TryOnly
import PySem.Challenge.RW_trueshop_k77_moments_moved_and_joined
set_option Elab.async false
set_option linter.all false
set_option maxRecDepth 100000
set_option maxHeartbeats 4000000
/-! A pure evaluator over the statement's own trees, part A: values, what stands for them. -/
namespace Pv
open PySem L2

inductive PV where
  | non | bl (b : Bool) | int (i : Int) | str (x : Str) | tup (xs : List PV) | lst (xs : List PV)

mutual
def PV.toD : PV → PyData
  | .non => .none
  | .bl b => .bool b
  | .int i => .int i
  | .str x => .str x
  | .tup xs => .tuple (PV.toDs xs)
  | .lst xs => .list (PV.toDs xs)
def PV.toDs : List PV → List PyData
  | [] => []
  | x :: xs => PV.toD x :: PV.toDs xs
end

mutual
/-- no list within -/
def PV.flat : PV → Bool
  | .tup xs => PV.flats xs
  | .lst _ => false
  | _ => true
def PV.flats : List PV → Bool
  | [] => true
  | x :: xs => PV.flat x && PV.flats xs
end

mutual
/-- the value v in the heap F is the datum -/
inductive Rep (K : PySem.W.Frag) (F : Hp) : V → PV → Prop
  | non : Rep K F .non .non
  | bl (b : Bool) : Rep K F (.bl b) (.bl b)
  | int (i : Int) : Rep K F (.int i) (.int i)
  | str (x : Str) : Rep K F (.str x) (.str x)
  | tup {a : Addr} {vs : List V} {xs : List PV} : SqT K F a vs → Reps K F vs xs → Rep K F (.ref a) (.tup xs)
  | lst {a : Addr} {vs : List V} {xs : List PV} : SqL K F a vs → Reps K F vs xs → Rep K F (.ref a) (.lst xs)
inductive Reps (K : PySem.W.Frag) (F : Hp) : List V → List PV → Prop
  | nil : Reps K F [] []
  | cons {v : V} {vs : List V} {x : PV} {xs : List PV} : Rep K F v x → Reps K F vs xs → Reps K F (v :: vs) (x :: xs)
end

section
variable {K : PySem.W.Frag} {F F' H H' : Hp} {v : V} {vs ws : List V} {x : PV} {xs ys : List PV}

theorem Same.rd {a : Addr} {u : HO} (e : Same F F') (h : Rd F a u) : Rd F' a u := by
  rcases h with h | ⟨o, h⟩
  · exact .inl (e _ _ h)
  · exact .inr ⟨o, e _ _ h⟩
theorem Same.sqL {a : Addr} {us : List V} (e : Same F F') (h : SqL K F a us) : SqL K F' a us := by
  rcases h with h | h
  · exact .inl (Same.rd e h)
  · exact .inr h
theorem Same.sqT {a : Addr} {us : List V} (e : Same F F') (h : SqT K F a us) : SqT K F' a us := by
  rcases h with h | h
  · exact .inl (Same.rd e h)
  · exact .inr h

mutual
theorem Rep.mono (e : Same F F') : ∀ {v : V} {x : PV}, Rep K F v x → Rep K F' v x
  | _, _, .non => .non
  | _, _, .bl b => .bl b
  | _, _, .int i => .int i
  | _, _, .str x => .str x
  | _, _, .tup h r => .tup (Same.sqT e h) (Reps.mono e r)
  | _, _, .lst h r => .lst (Same.sqL e h) (Reps.mono e r)
theorem Reps.mono (e : Same F F') : ∀ {vs : List V} {xs : List PV}, Reps K F vs xs → Reps K F' vs xs
  | _, _, .nil => .nil
  | _, _, .cons h r => .cons (Rep.mono e h) (Reps.mono e r)
end

theorem Reps.length : ∀ {vs : List V} {xs : List PV}, Reps K F vs xs → vs.length = xs.length
  | _, _, .nil => rfl
  | _, _, .cons _ r => congrArg Nat.succ (Reps.length r)
theorem Reps.get : ∀ {vs : List V} {xs : List PV} {i : Nat} {x : PV}, Reps K F vs xs → xs[i]? = some x → ∃ v, vs[i]? = some v ∧ Rep K F v x
  | _, _, _, _, .nil, e => by simp at e
  | _, _, 0, _, .cons r _, e => by simp at e; subst e; exact ⟨_, rfl, r⟩
  | _, _, i + 1, x, .cons _ t, e => by
    obtain ⟨u, h1, h2⟩ := Reps.get (i := i) (x := x) t (by simpa using e)
    exact ⟨u, by simpa using h1, h2⟩
theorem Reps.getV : ∀ {vs : List V} {xs : List PV} {i : Nat} {v : V}, Reps K F vs xs → vs[i]? = some v → ∃ x, xs[i]? = some x ∧ Rep K F v x
  | _, _, _, _, .nil, e => by simp at e
  | _, _, 0, _, .cons r _, e => by simp at e; subst e; exact ⟨_, rfl, r⟩
  | _, _, i + 1, x, .cons _ t, e => by
    obtain ⟨u, h1, h2⟩ := Reps.getV (i := i) (v := x) t (by simpa using e)
    exact ⟨u, by simpa using h1, h2⟩
theorem Reps.append : ∀ {vs ws : List V} {xs ys : List PV}, Reps K F vs xs → Reps K F ws ys → Reps K F (vs ++ ws) (xs ++ ys)
  | _, _, _, _, .nil, s => s
  | _, _, _, _, .cons r t, s => .cons r (Reps.append t s)
theorem Reps.take : ∀ {vs : List V} {xs : List PV} (n : Nat), Reps K F vs xs → Reps K F (vs.take n) (xs.take n)
  | _, _, 0, _ => .nil
  | _, _, _ + 1, .nil => .nil
  | _, _, n + 1, .cons r t => .cons r (Reps.take n t)
theorem Reps.drop : ∀ {vs : List V} {xs : List PV} (n : Nat), Reps K F vs xs → Reps K F (vs.drop n) (xs.drop n)
  | _, _, 0, r => r
  | _, _, _ + 1, .nil => .nil
  | _, _, n + 1, .cons _ t => Reps.drop n t
theorem Reps.set {v : V} {x : PV} (r : Rep K F v x) : ∀ {vs : List V} {xs : List PV} (i : Nat), Reps K F vs xs → Reps K F (vs.set i v) (xs.set i x)
  | _, _, _, .nil => .nil
  | _, _, 0, .cons _ t => .cons r t
  | _, _, i + 1, .cons q t => .cons q (Reps.set r i t)
theorem Reps.dropLast {vs : List V} {xs : List PV} (h : Reps K F vs xs) : Reps K F vs.dropLast xs.dropLast := by
  rw [List.dropLast_eq_take, List.dropLast_eq_take, h.length]
  exact h.take _
theorem Reps.one (h : Rep K F v x) : Reps K F [v] [x] := .cons h .nil
theorem Reps.ints : ∀ (ns : List Int), Reps K F (ns.map V.int) (ns.map PV.int)
  | [] => .nil
  | n :: ns => .cons (.int n) (Reps.ints ns)
/-- the inversions -/
theorem Rep.ofInt {i : Int} (h : Rep K F v (.int i)) : v = .int i := by cases h; rfl
theorem Rep.ofBl {b : Bool} (h : Rep K F v (.bl b)) : v = .bl b := by cases h; rfl
theorem Rep.ofStr {y : Str} (h : Rep K F v (.str y)) : v = .str y := by cases h; rfl
theorem Rep.ofNon (h : Rep K F v .non) : v = .non := by cases h; rfl
theorem Rep.ofTup (h : Rep K F v (.tup xs)) : ∃ a vs, v = .ref a ∧ SqT K F a vs ∧ Reps K F vs xs := by
  cases h with | tup h r => exact ⟨_, _, rfl, h, r⟩
theorem Rep.ofLst (h : Rep K F v (.lst xs)) : ∃ a vs, v = .ref a ∧ SqL K F a vs ∧ Reps K F vs xs := by
  cases h with | lst h r => exact ⟨_, _, rfl, h, r⟩

mutual
theorem Rep.toD : ∀ {v : V} {x : PV}, Rep K F v x → Dp K F v x.toD
  | _, _, .non => by unfold PV.toD; exact .non
  | _, _, .bl b => by unfold PV.toD; exact .bl b
  | _, _, .int i => by unfold PV.toD; exact .int i
  | _, _, .str x => by unfold PV.toD; exact .str x
  | _, _, .tup h r => by unfold PV.toD; exact .tup h (Reps.toDs r)
  | _, _, .lst h r => by unfold PV.toD; exact .lst h (Reps.toDs r)
theorem Reps.toDs : ∀ {vs : List V} {xs : List PV}, Reps K F vs xs → DpAll K F vs (PV.toDs xs)
  | _, _, .nil => by unfold PV.toDs; exact .nil
  | _, _, .cons h r => by unfold PV.toDs; exact .cons (Rep.toD h) (Reps.toDs r)
end

/-- a datum without lists leans on tuples alone -/
def Tups (F F' : Hp) : Prop := ∀ a vs, Rd F a (.tup vs) → Rd F' a (.tup vs)
mutual
theorem Rep.tups (e : Tups F F') : ∀ {v : V} {x : PV}, x.flat = true → Rep K F v x → Rep K F' v x
  | _, _, _, .non => .non
  | _, _, _, .bl b => .bl b
  | _, _, _, .int i => .int i
  | _, _, _, .str x => .str x
  | _, _, f, .tup h r => .tup (h.elim (fun z => .inl (e _ _ z)) .inr) (Reps.tups e (by unfold PV.flat at f; exact f) r)
  | _, _, f, .lst h r => by unfold PV.flat at f; cases f
theorem Reps.tups (e : Tups F F') : ∀ {vs : List V} {xs : List PV}, PV.flats xs = true → Reps K F vs xs → Reps K F' vs xs
  | _, _, _, .nil => .nil
  | _, _, f, .cons h r => by
    unfold PV.flats at f
    rw [Bool.and_eq_true] at f
    exact .cons (Rep.tups e f.1 h) (Reps.tups e f.2 r)
end
end

/-! ### the heap grows: F what is shared, H all -/
structure Grow (F H F' H' : Hp) : Prop where
  f : Same F F'
  h : Same H H'
  in_ : Same F' H'
  new : ∀ p, H p ≠ none → F p = none → F' p = none
theorem Grow.refl {F H : Hp} (e : Same F H) : Grow F H F H := ⟨Same.refl _, Same.refl _, e, fun _ _ h => h⟩
theorem Grow.trans {F H F1 H1 F2 H2 : Hp} (a : Grow F H F1 H1) (b : Grow F1 H1 F2 H2) : Grow F H F2 H2 :=
  ⟨a.f.trans b.f, a.h.trans b.h, b.in_, fun p h1 h2 => b.new p (fun z => h1 (a.h.free z)) (a.new p h1 h2)⟩
theorem same_upd {H : Hp} {p : Addr} {o : HO} (h : H p = none) : Same H (upd H p o) := fun b u e => by
  rw [upd_ne (ne_of_none e h)]; exact e
/-- a new object, shared -/
theorem Grow.laid {F H : Hp} {p : Addr} {o : HO} (e : Same F H) (h : H p = none) : Grow F H (upd F p o) (upd H p o) := by
  refine ⟨same_upd (e.free h), same_upd h, fun b u q => ?_, fun q h1 h2 => ?_⟩
  · by_cases hb : b = p
    · subst hb; rw [upd_same] at q ⊢; exact q
    · rw [upd_ne hb] at q ⊢; exact e b u q
  · have : q ≠ p := fun z => h1 (by rw [z]; exact h)
    rw [upd_ne this]; exact h2
/-- a new object of one's own -/
theorem Grow.own {F H : Hp} {p : Addr} {o : HO} (e : Same F H) (h : H p = none) : Grow F H F (upd H p o) := by
  refine ⟨Same.refl _, same_upd h, fun b u q => ?_, fun q h1 h2 => h2⟩
  rw [upd_ne (ne_of_none q (e.free h))]
  exact e b u q
/-- what a piece of code has given: a shared value, or a list that is all one's own -/
def Res (K : PySem.W.Frag) (H F' H' : Hp) (v : V) (x : PV) (own : Bool) : Prop :=
  if own = true then ∃ p vs xs, x = .lst xs ∧ v = .ref p ∧ H p = none ∧ F' p = none ∧ H' p = some (.lst vs) ∧ Reps K F' vs xs else Rep K F' v x
theorem Res.of {K : PySem.W.Frag} {H F' H' : Hp} {v : V} {x : PV} (h : Rep K F' v x) : Res K H F' H' v x false := by
  unfold Res; rw [if_neg Bool.false_ne_true]; exact h
theorem Res.mine {K : PySem.W.Frag} {H F' H' : Hp} {p : Addr} {vs : List V} {xs : List PV} (h1 : H p = none) (h2 : F' p = none) (h3 : H' p = some (.lst vs)) (r : Reps K F' vs xs) : Res K H F' H' (.ref p) (.lst xs) true := by
  unfold Res; rw [if_pos rfl]; exact ⟨p, vs, xs, rfl, rfl, h1, h2, h3, r⟩
/-- it may be shared -/
theorem Res.share {K : PySem.W.Frag} {F H F' H' : Hp} {v : V} {x : PV} {own : Bool} (g : Grow F H F' H') (h : Res K H F' H' v x own) : ∃ F2, Grow F H F2 H' ∧ Rep K F2 v x := by
  unfold Res at h
  cases own with
  | false => rw [if_neg Bool.false_ne_true] at h; exact ⟨F', g, h⟩
  | true =>
    rw [if_pos rfl] at h
    obtain ⟨p, vs, xs, rfl, rfl, h1, h2, h3, r⟩ := h
    have s1 : Same F' (upd F' p (.lst vs)) := same_upd h2
    refine ⟨upd F' p (.lst vs), ⟨g.f.trans s1, g.h, fun b u q => ?_, fun q z1 z2 => ?_⟩, .lst (.inl (.inl upd_same)) (r.mono s1)⟩
    · by_cases hb : b = p
      · subst hb; rw [upd_same] at q; cases q; exact h3
      · rw [upd_ne hb] at q; exact g.in_ b u q
    · have : q ≠ p := fun z => z1 (by rw [z]; exact h1)
      rw [upd_ne this]; exact g.new q z1 z2
theorem Res.mono {K : PySem.W.Frag} {H0 H F' H' : Hp} {v : V} {x : PV} {own : Bool} (s : Same H0 H) (h : Res K H F' H' v x own) : Res K H0 F' H' v x own := by
  unfold Res at h ⊢
  cases own with
  | false => rw [if_neg Bool.false_ne_true] at h ⊢; exact h
  | true =>
    rw [if_pos rfl] at h ⊢
    obtain ⟨p, vs, xs, e1, e2, h1, h2, h3, r⟩ := h
    exact ⟨p, vs, xs, e1, e2, s.free h1, h2, h3, r⟩
end Pv

/-! Part B: the evaluator of expressions -/
namespace Pv
open PySem L2

/-- what the surroundings tell: the defs' answers, their defaults, keyword shapes, constants -/
structure Tb where
  raw : Str → List PV → Option (PV × Bool)
  own : Str → Bool
  dfl : Str → Nat → Option (List PV)
  kwd : Str → Nat → List Str → Bool
  con : Str → Option PV
  fgt : Nat → Nat → List (Nat × Bool)
  frz : Nat → Nat → Bool
/-- the value of a call; the list of a def that hands back a list of its own -/
def fstO : Option (PV × Bool) → Option PV
  | some (x, _) => some x
  | none => none
def ownO : Option (PV × Bool) → Option (List PV)
  | some (.lst xs, true) => some xs
  | _ => none
def Tb.call (T : Tb) (f : Str) (xs : List PV) : Option (PV × Bool) := if T.own f then (ownO (T.raw f xs)).bind fun ys => some (.lst ys, true) else (fstO (T.raw f xs)).bind fun x => some (x, false)

def visB (sc : Scope) (x : Str) : Bool := match sc.names.lookup x with
  | some .local => true | some .cell => true | some .free => true | _ => false
def locB (sc : Scope) (x : Str) : Bool := match sc.names.lookup x with
  | some .local => true | some .cell => true | _ => false
def glB (sc : Scope) (x : Str) : Bool := match sc.names.lookup x with
  | some .globalImplicit => true | _ => false
def okNm (x : Str) : Bool := !(x == ("__debug__" : Str)) && !(x == ("__classdict__" : Str))
def idx (N : List Str) (x : Str) : Option Nat := N.findIdx? (· == x)

abbrev Sl := List (Option PV)
abbrev Out := Option (PV × Bool)
def sh (x : PV) : Out := some (x, false)

def mulOk (i j : Int) : Bool := decide (i.natAbs.log2 + j.natAbs.log2 < 1000000)
def divOk (j : Int) : Bool := decide (j ≠ 0) && decide (j.natAbs.log2 < 9000)
def big : Nat := 1000000

def binop (op : Operator) (x y : PV) : Out :=
  match op, x, y with
  | .Add, .int i, .int j => sh (.int (i + j))
  | .Add, .str a, .str b => if a.length + b.length ≤ big then sh (.str (a ++ b)) else none
  | .Add, .lst a, .lst b => if a.length + b.length ≤ big then some (.lst (a ++ b), true) else none
  | .Add, .tup (a :: as), .tup (b :: bs) => if (a :: as).length + (b :: bs).length ≤ big then sh (.tup ((a :: as) ++ (b :: bs))) else none
  | .Sub, .int i, .int j => sh (.int (i - j))
  | .Mult, .int i, .int j => if mulOk i j then sh (.int (i * j)) else none
  | .FloorDiv, .int i, .int j => if divOk j then sh (.int (i.fdiv j)) else none
  | .Mod, .int i, .int j => if j = 0 then none else sh (.int (i.fmod j))
  | .Pow, .int i, .int j => if 0 ≤ j ∧ j ≤ 1000 ∧ i.natAbs < 2 ^ 64 then sh (.int (i ^ j.toNat)) else none
  | _, _, _ => none

def eqD (x y : PV) : Option Bool := if SeqAt.shaped x.toD && SeqAt.shaped y.toD then some (PyData.eqv x.toD y.toD) else none
/-- the flat items, for in -/
def flatP : PV → Option V
  | .non => some .non | .bl b => some (.bl b) | .int i => some (.int i) | .str s => some (.str s) | _ => none
def flatPs : List PV → Option (List V)
  | [] => some []
  | x :: xs => (flatP x).bind fun v => (flatPs xs).map fun vs => v :: vs
def isIn (x : PV) (xs : List PV) : Option Bool := (flatP x).bind fun v => (flatPs xs).bind fun vs => if flatV v && vs.all flatV then some (inV v vs) else none

def cmp (op : CmpOp) (x y : PV) : Option Bool :=
  match op, x, y with
  | .Lt, .int i, .int j => some (decide (i < j))
  | .LtE, .int i, .int j => some (decide (i ≤ j))
  | .Gt, .int i, .int j => some (decide (j < i))
  | .GtE, .int i, .int j => some (decide (j ≤ i))
  | .Eq, x, y => eqD x y
  | .NotEq, x, y => (eqD x y).map (!·)
  | .Is, .non, .non => some true
  | .Is, _, .non => some false
  | .IsNot, .non, .non => some false
  | .IsNot, _, .non => some true
  | .In, x, .lst xs => isIn x xs
  | .In, x, .tup xs => isIn x xs
  | .NotIn, x, .lst xs => (isIn x xs).map (!·)
  | .NotIn, x, .tup xs => (isIn x xs).map (!·)
  | .In, .str a, .str b => some (!(Builtin.Str.occurrences b a 0 b.length 1).isEmpty)
  | .NotIn, .str a, .str b => some (!(!(Builtin.Str.occurrences b a 0 b.length 1).isEmpty))
  | _, _, _ => none

def truth : PV → Option Bool
  | .non => some false
  | .bl b => some b
  | .int i => some (i != 0)
  | .str x => if x.length ≤ big then some ((x.length : Int) != 0) else none
  | .lst xs => some (!xs.isEmpty)
  | .tup xs => some (!xs.isEmpty)

def getIx (x y : PV) : Out :=
  match x, y with
  | .lst xs, .int i => (atI xs i).bind sh
  | .tup xs, .int i => (atI xs i).bind sh
  | .str z, .int i => if z.length ≤ big then (atI z.cps.toList i).bind fun c => sh (.str ⟨#[c]⟩) else none
  | _, _ => none
def cutP (xs : List PV) (lo hi : Option Int) : List PV := (xs.drop (HT.sIx xs.length 0 lo)).take (HT.sIx xs.length xs.length hi - HT.sIx xs.length 0 lo)
def getSl (x : PV) (lo hi : Option Int) : Out :=
  match x with
  | .lst xs => some (.lst (cutP xs lo hi), true)
  | .tup xs => if HT.sIx xs.length 0 lo = 0 ∧ HT.sIx xs.length xs.length hi = xs.length then none else sh (.tup (cutP xs lo hi))
  | _ => none

def clsIs (t : String) : PV → Option Bool
  | .non => kitB "NoneType" t
  | .bl _ => kitB "bool" t
  | .int _ => kitB "int" t
  | .str _ => kitB "str" t
  | .tup _ => kitB "tuple" t
  | .lst _ => kitB "list" t

/-- the built-ins that are called by name, on values -/
def blt (f : Str) (xs : List PV) : Out :=
  if f = "len" then (match xs with
    | [.lst ys] => sh (.int ys.length) | [.tup ys] => sh (.int ys.length)
    | [.str z] => if z.length ≤ big then sh (.int z.length) else none | _ => none)
  else if f = "abs" then (match xs with | [.int i] => sh (.int (if i < 0 then -i else i)) | _ => none)
  else if f = "int" then (match xs with | [.int i] => sh (.int i) | [.bl k] => sh (.int (if k then 1 else 0)) | _ => none)
  else if f = "list" then (match xs with | [.lst ys] => some (.lst ys, true) | [.tup ys] => some (.lst ys, true) | _ => none)
  else if f = "tuple" then (match xs with | [.lst ys] => sh (.tup ys) | [.tup ys] => sh (.tup ys) | _ => none)
  else if f = "str" then (match xs with | [.int i] => if i.natAbs.log2 < 1920 then sh (.str (toString i)) else none | _ => none)
  else none
/-- .. with its own list told -/
def bltV (f : Str) (xs : List PV) : Out := if f = "list" then (match xs with | [.lst ys] => some (.lst ys, true) | [.tup ys] => some (.lst ys, true) | _ => none) else (blt f xs).bind fun z => sh z.1
def bltNames : List Str := ["len", "abs", "int", "list", "tuple", "str", "isinstance", "range"]
def isBlt (f : Str) : Bool := bltNames.any (· == f)
/-- classes that are named in isinstance -/
def tyNames : List (Str × String) := [("int", "int"), ("bool", "bool"), ("tuple", "tuple"), ("list", "list"), ("str", "str")]

def evEs (f : PySem.Expr → Out) : List PySem.Expr → Option (List PV)
  | [] => some []
  | e :: es => match e with
    | .Starred _ _ => none
    | e => (f e).bind fun x => (evEs f es).map fun xs => x.1 :: xs
def blOf : PV → Option Bool
  | .bl b => some b
  | _ => none
def neg1 : PV → Out
  | .int i => sh (.int (-i))
  | _ => none
def not1 : PV → Out
  | .bl c => sh (.bl (!c))
  | _ => none
def boolV (f : PySem.Expr → Out) (op : BoolOp) : List PySem.Expr → Out
  | [] => none
  | e :: es => match es with
    | [] => f e
    | e' :: es' => match op with
      | .And => (f e).bind fun x => (blOf x.1).bind fun b => if b then boolV f op (e' :: es') else sh (.bl false)
      | .Or => (f e).bind fun x => (blOf x.1).bind fun b => if b then sh (.bl true) else boolV f op (e' :: es')
def boolT (f : PySem.Expr → Option Bool) (op : BoolOp) : List PySem.Expr → Option Bool
  | [] => none
  | e :: es => match es with
    | [] => f e
    | e' :: es' => match op with
      | .And => (f e).bind fun b => if b then boolT f op (e' :: es') else some false
      | .Or => (f e).bind fun b => if b then some true else boolT f op (e' :: es')
/-- a target: a name, or a tuple of names: what is stored where -/
def updN (N : List Str) (sc : Scope) (asg : Str → Bool) (x : Str) (v : PV) : Option (List (Nat × PV)) :=
  (idx N x).bind fun i => if locB sc x && asg x then some [(i, v)] else none
def updNs (N : List Str) (sc : Scope) (asg : Str → Bool) : List PySem.Expr → List PV → Option (List (Nat × PV))
  | [], [] => some []
  | .Name x _ :: es, v :: vs => (updN N sc asg x v).bind fun u => (updNs N sc asg es vs).map fun us => u ++ us
  | _, _ => none
def updT0 (N : List Str) (sc : Scope) (asg : Str → Bool) (t : PySem.Expr) (v : PV) : Option (List (Nat × PV)) :=
  match t, v with
  | .Name x _, v => updN N sc asg x v
  | .Tuple es _ _, .tup vs => updNs N sc asg es vs
  | _, _ => none
/-- so many parts of a tuple -/
def unT (n : Nat) : PV → Option (List PV)
  | .tup vs => if vs.length = n then some vs else none
  | _ => none
def updGs (N : List Str) (sc : Scope) (asg : Str → Bool) (vs : List PV) : List PySem.Expr → Nat → Option (List (Nat × PV))
  | [], _ => some []
  | .Name x _ :: es, i => (updN N sc asg x (vs.getD i .non)).bind fun u => (updGs N sc asg vs es (i + 1)).map fun us => u ++ us
  | _, _ => none
def updTK {α : Type} (N : List Str) (sc : Scope) (asg : Str → Bool) (t : PySem.Expr) (v : PV) (k : List (Nat × PV) → Option α) : Option α :=
  match t with
  | .Name x _ => (updN N sc asg x v).bind k
  | .Tuple es _ _ => (unT es.length v).bind fun vs => (updGs N sc asg vs es 0).bind k
  | _ => none
def updT (N : List Str) (sc : Scope) (asg : Str → Bool) (t : PySem.Expr) (v : PV) : Option (List (Nat × PV)) := updTK N sc asg t v some
theorem updTK_eq {α : Type} {N : List Str} {sc : Scope} {asg : Str → Bool} {t : PySem.Expr} {v : PV} {k : List (Nat × PV) → Option α} : updTK N sc asg t v k = (updT N sc asg t v).bind k := by
  unfold updT updTK
  split
  · rw [Option.bind_assoc]; rfl
  · rw [Option.bind_assoc]
    congr 1
    funext vs
    rw [Option.bind_assoc]
    rfl
  · rfl
theorem updGs_old {N : List Str} {sc : Scope} {asg : Str → Bool} {vs : List PV} : ∀ {es : List PySem.Expr} {i : Nat} {us : List (Nat × PV)}, i + es.length = vs.length → updGs N sc asg vs es i = some us → updNs N sc asg es (vs.drop i) = some us
  | [], i, us, hl, h => by
    rw [List.drop_eq_nil_of_le (by simp at hl; omega)]
    exact h
  | e :: es, i, us, hl, h => by
    have hi : i < vs.length := by simp at hl; omega
    rw [List.drop_eq_getElem_cons hi]
    cases e with
    | Name x p =>
      simp only [updGs] at h
      simp only [updNs]
      obtain ⟨u, e1, h⟩ := Option.bind_eq_some_iff.mp h
      obtain ⟨us', e2, h⟩ := Option.map_eq_some_iff.mp h
      have e3 := updGs_old (by simp at hl; omega) e2
      have : vs.getD i .non = vs[i] := by simp [List.getD, hi]
      rw [this] at e1
      rw [e1, e3]
      simp only [Option.bind_some, Option.map_some]
      rw [h]
    | _ => simp only [updGs] at h; cases h
theorem updT_old {N : List Str} {sc : Scope} {asg : Str → Bool} {t : PySem.Expr} {v : PV} {us : List (Nat × PV)} (h : updT N sc asg t v = some us) : updT0 N sc asg t v = some us := by
  unfold updT updTK at h
  split at h
  · obtain ⟨u, e1, h⟩ := Option.bind_eq_some_iff.mp h
    cases h
    cases v <;> (unfold updT0; exact e1)
  · obtain ⟨vs, e1, h⟩ := Option.bind_eq_some_iff.mp h
    obtain ⟨u, e2, h⟩ := Option.bind_eq_some_iff.mp h
    cases h
    unfold unT at e1
    split at e1
    · split at e1
      · cases e1
        rename_i hl
        have := updGs_old (by rw [hl]; simp) e2
        unfold updT0
        exact this
      · cases e1
    · cases e1
  · cases h
def app : List (Nat × PV) → Sl → Sl
  | [], σ => σ
  | u :: us, σ => app us (σ.set u.1 (some u.2))
def compL (b : PV → Option Sl) (t : Sl → Option Bool) (e : Sl → Out) : List PV → Option (List PV)
  | [] => some []
  | x :: r => (b x).bind fun σ => (t σ).bind fun c =>
    if c then (e σ).bind fun y => (compL b t e r).map fun ys => y.1 :: ys else compL b t e r
def compM (step : PV → Option (Option PV)) : List PV → Option (List PV)
  | [] => some []
  | x :: r => (step x).bind fun o => (match o with | some y => (compM step r).map fun ys => y :: ys | none => compM step r)
theorem compM_eq {b : PV → Option Sl} {t : Sl → Option Bool} {e : Sl → Out} {step : PV → Option (Option PV)} (h : ∀ x, step x = (b x).bind fun σ => (t σ).bind fun c => if c then (e σ).bind fun y => some (some y.1) else some none) : ∀ l, compM step l = compL b t e l
  | [] => rfl
  | x :: r => by
    unfold compM compL
    rw [h, compM_eq h r]
    cases b x with
    | none => rfl
    | some σ =>
      simp only [Option.bind_some]
      cases t σ with
      | none => rfl
      | some c =>
        cases c with
        | true =>
          simp only [Option.bind_some, if_true]
          cases e σ <;> rfl
        | false => rfl
def ifsB (f : PySem.Expr → Option Bool) : List PySem.Expr → Option Bool
  | [] => some true
  | [k] => f k
  | _ => none
/-- the names of a comprehension's own, with their places -/
def ownOf (N : List Str) (scope : Scope) : List (Str × Nat) := scope.names.filterMap fun y => match y.2 with
  | .local => (idx N y.1).map fun i => (y.1, i)
  | .cell => (idx N y.1).map fun i => (y.1, i)
  | _ => none
def asgOf (scope : Scope) : Str → Bool := fun x => locB scope x
def wipeP (σ : Sl) : List Nat → Sl
  | [] => σ
  | v :: vs => (wipeP σ vs).set v none
def intsFrom (lo : Int) : Nat → List PV
  | 0 => []
  | n + 1 => .int lo :: intsFrom (lo + 1) n
def seqOf : PV → Option (List PV)
  | .lst xs => if xs.length ≤ big then some xs else none
  | .tup xs => if xs.length ≤ big then some xs else none
  | _ => none
def small62 (i : Int) : Bool := decide (-(2 ^ 62) ≤ i) && decide (i < 2 ^ 62)

def rng1 : PV → Option (List PV)
  | .int j => if small62 j && decide (j.toNat ≤ big) then some (intsFrom 0 j.toNat) else none
  | _ => none
def rng2 : PV → PV → Option (List PV)
  | .int i, .int j => if small62 i && small62 j && decide ((j - i).toNat ≤ big) then some (intsFrom i (j - i).toNat) else none
  | _, _ => none
def intO : PV → Option (Option Int)
  | .int i => some (some i)
  | _ => none
mutual
def evE (T : Tb) (N : List Str) : Nat → Scope → Sl → PySem.Expr → Out
  | 0, _, _, _ => none
  | n + 1, sc, σ, e => match e with
    | .Constant c _ _ => (match c with
      | .none => sh .non | .bool b => sh (.bl b) | .int i => sh (.int i) | .str s => sh (.str s) | _ => none)
    | .Name x _ => if okNm x then (match idx N x with
      | some i => if visB sc x then (match σ[i]? with | some (some v) => sh v | _ => none) else none
      | none => if glB sc x then (T.con x).bind sh else none) else none
    | .Tuple es _ _ => if es.length ≤ big then (evEs (evE T N n sc σ) es).bind fun xs => sh (.tup xs) else none
    | .List es _ => if es.length ≤ big then (evEs (evE T N n sc σ) es).bind fun xs => some (.lst xs, true) else none
    | .BinOp a op b _ => (evE T N n sc σ a).bind fun x => (evE T N n sc σ b).bind fun y => (binop op x.1 y.1).bind fun z => sh z.1
    | .UnaryOp .USub a _ => (evE T N n sc σ a).bind fun x => neg1 x.1
    | .UnaryOp .Not a _ => (evE T N n sc σ a).bind fun x => not1 x.1
    | .BoolOp op es _ => boolV (evE T N n sc σ) op es
    | .Compare a [op] [b] _ => if behindInMarks op b then none else (evE T N n sc σ a).bind fun x => (evE T N n sc σ b).bind fun y => (cmp op x.1 y.1).bind fun c => sh (.bl c)
    | .IfExp c a b _ => (evT T N n sc σ c).bind fun k => if k then evE T N n sc σ a else evE T N n sc σ b
    | .Subscript a (.Slice lo hi none _) _ => (evE T N n sc σ a).bind fun x => (evO T N n sc σ lo).bind fun l => (evO T N n sc σ hi).bind fun h => (getSl x.1 l h).bind fun z => sh z.1
    | .Subscript a (.Slice _ _ (some _) _) _ => none
    | .Subscript a b _ => (evE T N n sc σ a).bind fun x => (evE T N n sc σ b).bind fun y => (getIx x.1 y.1).bind fun z => sh z.1
    | .Call (.Name f _) args [] _ => if okNm f && glB sc f then (match T.dfl f args.length with
      | some ds => (evEs (evE T N n sc σ) args).bind fun xs => T.call f (xs ++ ds)
      | none => if isBlt f then (if f = "isinstance" then (match args with
          | [a, .Name t _] => if glB sc t then (tyNames.lookup t).bind fun ty => (evE T N n sc σ a).bind fun x => (clsIs ty x.1).bind fun b => sh (.bl b) else none
          | _ => none) else (match args with | [] => none | _ => (evEs (evE T N n sc σ) args).bind fun xs => bltV f xs)) else none) else none
    | .Call (.Name f _) args [⟨some k, v, _⟩] _ => if okNm f && glB sc f && T.kwd f args.length [k] then
        (match args with | [] => none | _ => (evEs (evE T N n sc σ) args).bind fun xs => (evE T N n sc σ v).bind fun y => T.call f (xs ++ [y.1])) else none
    | .ListComp elt [⟨tg, it, ifs, z⟩] scope _ => if decide (z = 0) && blkC N sc scope (ownOf N scope) then
        (evI T N n sc σ it).bind fun items =>
          (compM (fun x => updTK N (relS scope sc) (asgOf scope) tg x fun us =>
            (ifsB (evT T N n (relS scope sc) (app us (wipeP σ ((ownOf N scope).map (·.2))))) ifs).bind fun c =>
              if c then (evE T N n (relS scope sc) (app us (wipeP σ ((ownOf N scope).map (·.2)))) elt).bind fun y => some (some y.1) else some none) items).bind fun ys => some (.lst ys, true) else none
    | _ => none
def evT (T : Tb) (N : List Str) : Nat → Scope → Sl → PySem.Expr → Option Bool
  | 0, _, _, _ => none
  | n + 1, sc, σ, e => match e with
    | .Compare a [op] [b] _ => if behindInMarks op b then none else (evE T N n sc σ a).bind fun x => (evE T N n sc σ b).bind fun y => cmp op x.1 y.1
    | .Compare _ _ _ _ => none
    | .BoolOp op es _ => boolT (evT T N n sc σ) op es
    | .UnaryOp .Not a _ => (evT T N n sc σ a).map (!·)
    | .IfExp _ _ _ _ => none
    | e => (evE T N n sc σ e).bind fun x => truth x.1
def evO (T : Tb) (N : List Str) : Nat → Scope → Sl → Option PySem.Expr → Option (Option Int)
  | 0, _, _, _ => none
  | n + 1, sc, σ, e => match e with
    | none => some none
    | some e => (evE T N n sc σ e).bind fun x => intO x.1
/-- what is walked -/
def evI (T : Tb) (N : List Str) : Nat → Scope → Sl → PySem.Expr → Option (List PV)
  | 0, _, _, _ => none
  | n + 1, sc, σ, e => match e with
    | .Set _ _ _ => none
    | .Call (.Name f _) args [] _ => if f = "range" then
        (if glB sc f then (match args with
          | [a] => (evE T N n sc σ a).bind fun x => rng1 x.1
          | [a, b] => (evE T N n sc σ a).bind fun x => (evE T N n sc σ b).bind fun y => rng2 x.1 y.1
          | _ => none) else none)
        else (evE T N n sc σ e).bind fun x => seqOf x.1
    | e => (evE T N n sc σ e).bind fun x => seqOf x.1
end
end Pv

/-! Part C: what the evaluator says of an expression is so -/
namespace Pv
open PySem L2 PySem.Spec PyProof.Rows

structure Cc where
  P : Program
  w : World
  K : PySem.W.Frag
  mg : Str → Option Value
  base : Heap
  N : List Str
  d : Nat
structure CxOk (c : Cc) (sc : Scope) (asg : Str → Bool) (X : Cx) : Prop where
  P : X.prog = c.P
  w : X.w = c.w
  K : X.K = c.K
  mg : X.mg = c.mg
  base : X.base = c.base
  N : X.N = c.N
  sc : X.env.scope = sc
  rm : Room c.d X.A
  calm : X.calm = true
  as : ∀ x, asg x = true → X.fn x = true ∨ X.env.scope.names.lookup x = some .local

def Vrel (K : PySem.W.Frag) (F : Hp) (σp : Sl) (σ : L2.St) : Prop := σp.length = σ.length ∧ ∀ (i : Nat) (x : PV), σp[i]? = some (some x) → ∃ v, σ[i]? = some (some v) ∧ Rep K F v x
theorem Vrel.mono {K : PySem.W.Frag} {F F' : Hp} {σp : Sl} {σ : L2.St} (s : Same F F') (h : Vrel K F σp σ) : Vrel K F' σp σ := ⟨h.1, fun i x e =>
  let ⟨v, h1, h2⟩ := h.2 i x e; ⟨v, h1, h2.mono s⟩⟩

def EvE (K : PySem.W.Frag) (t : TE) (σp : Sl) (x : PV) (own : Bool) : Prop := ∀ F H σ, Same F H → Vrel K F σp σ → ∀ Q : VK, (∀ v F' H', Grow F H F' H' → Res K H F' H' v x own → Q v H') → t σ H Q
def EvS (K : PySem.W.Frag) (t : TE) (σp : Sl) (x : PV) : Prop := ∀ F H σ, Same F H → Vrel K F σp σ → ∀ Q : VK, (∀ v F' H', Grow F H F' H' → Rep K F' v x → Q v H') → t σ H Q
def EvT (K : PySem.W.Frag) (t : TT) (σp : Sl) (b : Bool) : Prop := ∀ F H σ, Same F H → Vrel K F σp σ → ∀ Q : Bool → Hp → Prop, (∀ F' H', Grow F H F' H' → Q b H') → t σ H Q
def EvA (K : PySem.W.Frag) (t : TA) (σp : Sl) (xs : List PV) : Prop := ∀ F H σ, Same F H → Vrel K F σp σ → ∀ Q : List V → Hp → Prop, (∀ vs F' H', Grow F H F' H' → Reps K F' vs xs → Q vs H') → t σ H Q
def EvO (K : PySem.W.Frag) (t : TO) (σp : Sl) (o : Option Int) : Prop := ∀ F H σ, Same F H → Vrel K F σp σ → ∀ Q : Option Int → Hp → Prop, (∀ F' H', Grow F H F' H' → Q o H') → t σ H Q
/-- an iterator over vs, whatever else is laid -/
def ItOk (J : It) (F : Hp) (vs : List V) : Prop := ∀ H i, Same F H → (i < vs.length → J.go i H ∧ ∀ x H', J.yld i H x H' → H' = H ∧ vs[i]? = some x) ∧ (vs.length ≤ i → J.stop i H)
def EvI (K : PySem.W.Frag) (wi : TI) (σp : Sl) (xs : List PV) : Prop := ∀ F H σ, Same F H → Vrel K F σp σ → ∀ R : It → Hp → Prop, (∀ J vs F' H', Grow F H F' H' → Reps K F' vs xs → ItOk J F' vs → R J H') → wi σ H R

section
variable {K : PySem.W.Frag} {σp : Sl} {x y : PV} {own : Bool}
theorem EvE.s {t : TE} (h : EvE K t σp x own) : EvS K t σp x := fun F H σ s vr Q q => h F H σ s vr Q fun v F' H' g r =>
  let ⟨F2, g2, r2⟩ := r.share g; q v F2 H' g2 r2
theorem EvS.e {t : TE} (h : EvS K t σp x) : EvE K t σp x false := fun F H σ s vr Q q => h F H σ s vr Q fun v F' H' g r => q v F' H' g (.of r)

def tF : TE := fun _ _ _ => False
def ttF : TT := fun _ _ _ => False
def taF : TA := fun _ _ _ => False
def toF : TO := fun _ _ _ => False
def tiF : TI := fun _ _ _ => False
theorem pe_F {X : Cx} {e : PySem.Expr} : PE X e tF := ⟨fun _ _ _ _ _ _ h => h.elim⟩
theorem pt_F {X : Cx} {e : PySem.Expr} : PT X e ttF := ⟨fun _ _ _ _ _ _ h => h.elim⟩
theorem pw_F {X : Cx} {e : PySem.Expr} : PW X e ttF := ⟨fun _ _ _ _ _ _ _ h => h.elim⟩
theorem pa_F {X : Cx} {es : List PySem.Expr} : PA X es taF := ⟨fun _ _ _ _ _ _ _ h => h.elim⟩
theorem po_F {X : Cx} {e : Option PySem.Expr} : PO X e toF := ⟨fun _ _ _ _ _ _ h => h.elim⟩
theorem pi_F {X : Cx} {tg e : PySem.Expr} : PI X tg e tiF := ⟨fun _ _ _ _ _ _ h => h.elim⟩

/-- sound: the rule's term and what it reads -/
def SE (c : Cc) (sc : Scope) (asg : Str → Bool) (e : PySem.Expr) (f : Sl → Out) : Prop := ∃ t, (∀ X, CxOk c sc asg X → PE X e t) ∧ ∀ σp x own, f σp = some (x, own) → EvE c.K t σp x own
def ST (c : Cc) (sc : Scope) (asg : Str → Bool) (e : PySem.Expr) (f : Sl → Option Bool) : Prop := ∃ t, (∀ X, CxOk c sc asg X → PT X e t) ∧ ∀ σp b, f σp = some b → EvT c.K t σp b
def SA (c : Cc) (sc : Scope) (asg : Str → Bool) (es : List PySem.Expr) (f : Sl → Option (List PV)) : Prop := ∃ t, (∀ X, CxOk c sc asg X → PA X es t) ∧ ∀ σp xs, f σp = some xs → EvA c.K t σp xs
def SO (c : Cc) (sc : Scope) (asg : Str → Bool) (e : Option PySem.Expr) (f : Sl → Option (Option Int)) : Prop := ∃ t, (∀ X, CxOk c sc asg X → PO X e t) ∧ ∀ σp o, f σp = some o → EvO c.K t σp o
def SI (c : Cc) (sc : Scope) (asg : Str → Bool) (e : PySem.Expr) (f : Sl → Option (List PV)) : Prop := ∀ tg, ∃ t, (∀ X, CxOk c sc asg X → PI X tg e t) ∧ ∀ σp xs, f σp = some xs → EvI c.K t σp xs

theorem SE.none {c : Cc} {sc : Scope} {asg : Str → Bool} {e : PySem.Expr} : SE c sc asg e fun _ => none := ⟨tF, fun _ _ => pe_F, fun _ _ _ h => nomatch h⟩
theorem ST.none {c : Cc} {sc : Scope} {asg : Str → Bool} {e : PySem.Expr} : ST c sc asg e fun _ => none := ⟨ttF, fun _ _ => pt_F, fun _ _ h => nomatch h⟩
theorem SI.none {c : Cc} {sc : Scope} {asg : Str → Bool} {e : PySem.Expr} : SI c sc asg e fun _ => none := fun _ => ⟨tiF, fun _ _ => pi_F, fun _ _ h => nomatch h⟩
end

/-! ### arguments -/
section
variable {c : Cc} {sc : Scope} {asg : Str → Bool}
theorem star_of {e : PySem.Expr} {es : List PySem.Expr} {env : Env} (h : ∀ a p, e ≠ .Starred a p) : starEach (e :: es) env = (false, eval e env) :: starEach es env := by
  cases e <;> first | rfl | exact absurd rfl (h _ _)
theorem sa_of {f : Sl → PySem.Expr → Out} : ∀ {es : List PySem.Expr}, (∀ e ∈ es, SE c sc asg e fun σp => f σp e) → SA c sc asg es fun σp => evEs (f σp) es
  | [], _ => ⟨tNil, fun _ _ => pa_nil, fun σp xs h => by
      simp only [evEs] at h; cases h
      intro F H σ s vr Q q
      exact q [] F H (Grow.refl s) .nil⟩
  | e :: es, ih => by
    obtain ⟨te, h1, h2⟩ := ih e (List.mem_cons_self ..)
    obtain ⟨ts, h3, h4⟩ := sa_of (f := f) (es := es) fun e' he => ih e' (List.mem_cons_of_mem _ he)
    by_cases hs : ∃ a p, e = .Starred a p
    · obtain ⟨a, p, rfl⟩ := hs
      exact ⟨taF, fun _ _ => pa_F, fun σp xs h => by simp only [evEs] at h; cases h⟩
    · have hs' : ∀ a p, e ≠ .Starred a p := fun a p q => hs ⟨a, p, q⟩
      refine ⟨tCons te ts, fun X ok => pa_cons (h1 X ok) (h3 X ok) (star_of hs'), fun σp xs h => ?_⟩
      have h' : ((f σp e).bind fun x => (evEs (f σp) es).map fun xs => x.1 :: xs) = some xs := by
        cases e <;> first | exact h | exact absurd rfl (hs' _ _)
      cases e1 : f σp e with
      | none => rw [e1] at h'; cases h'
      | some p =>
        obtain ⟨x, own⟩ := p
        rw [e1] at h'
        cases e2 : evEs (f σp) es with
        | none => rw [e2] at h'; cases h'
        | some ys =>
          rw [e2] at h'
          cases h'
          intro F H σ s vr Q q
          refine (h2 σp x own e1).s F H σ s vr _ fun v F1 H1 g1 r1 => ?_
          refine h4 σp ys e2 F1 H1 σ g1.in_ (vr.mono g1.f) _ fun vs F2 H2 g2 r2 => ?_
          exact q _ F2 H2 (g1.trans g2) (.cons (r1.mono g2.f) r2)

/-! ### names, constants, displays -/
theorem se_const {k : Const} {v : V} {x : PV} {j : Nat} {pos : Pos} (h : ∀ X, PE X (.Constant k j pos) (tC v)) (r : ∀ F, Rep c.K F v x) : SE c sc asg (.Constant k j pos) fun _ => sh x :=
  ⟨tC v, fun X _ => h X, fun σp y own e => by
    cases e
    exact EvS.e fun F H σ s vr Q q => q v F H (Grow.refl s) (r F)⟩
theorem okNm_d {x : Str} (h : okNm x = true) : (x == ("__debug__" : Str)) = false ∧ (x == ("__classdict__" : Str)) = false := by
  unfold okNm at h
  simp only [Bool.and_eq_true, Bool.not_eq_true'] at h
  exact h
theorem idx_get {N : List Str} {x : Str} {i : Nat} (h : idx N x = some i) : N[i]? = some x := by
  unfold idx at h
  rw [List.findIdx?_eq_some_iff_getElem] at h
  obtain ⟨hl, h1, _⟩ := h
  rw [List.getElem?_eq_getElem hl]
  simp only [beq_iff_eq] at h1
  rw [h1]
theorem vis_of {s2 : Scope} {x : Str} (h : visB s2 x = true) : Vis s2 x := by
  unfold visB at h
  split at h
  · exact .inl (by assumption)
  · exact .inr (.inl (by assumption))
  · exact .inr (.inr (by assumption))
  · cases h
theorem loc_of {s2 : Scope} {x : Str} (h : locB s2 x = true) : Loc s2 x := by
  unfold locB at h
  split at h
  · exact .inl (by assumption)
  · exact .inr (by assumption)
  · cases h
theorem gl_of {X : Cx} {x : Str} (h : glB X.env.scope x = true) : Gl X x := by
  unfold glB at h
  split at h
  · assumption
  · cases h

/-- the module's constants -/
def ConOk (c : Cc) (con : Str → Option PV) : Prop := ∀ x p, con x = some p → ∃ u v, c.mg x = some u ∧ RelV v u ∧ ∀ F, Rep c.K F v p
theorem se_name {T : Tb} {x : Str} {pos : Pos} (hc : ConOk c T.con) : SE c sc asg (.Name x pos) fun σ => if okNm x then (match idx c.N x with
      | some i => if visB sc x then (match σ[i]? with | some (some v) => sh v | _ => none) else none
      | none => if glB sc x then (T.con x).bind sh else none) else none := by
  by_cases h0 : okNm x = true
  · obtain ⟨d1, d2⟩ := okNm_d h0
    simp only [h0, if_true]
    cases hi : idx c.N x with
    | some i =>
      simp only
      by_cases hv : visB sc x = true
      · simp only [hv, if_true]
        refine ⟨tVar i, fun X ok => pe_var (by rw [ok.N]; exact idx_get hi) (by rw [ok.sc]; exact vis_of hv) d1 d2, fun σp y own h => ?_⟩
        cases e : σp[i]? with
        | none => simp [e] at h
        | some o =>
          cases o with
          | none => simp [e] at h
          | some v =>
            simp only [e] at h
            cases h
            refine EvS.e fun F H σ s vr Q q => ?_
            obtain ⟨u, h1, h2⟩ := vr.2 i _ e
            exact ⟨u, h1, q u F H (Grow.refl s) h2⟩
      · simp only [hv]
        exact SE.none
    | none =>
      simp only
      by_cases hg : glB sc x = true
      · simp only [hg, if_true]
        cases hx : T.con x with
        | none => exact SE.none
        | some p =>
          obtain ⟨u, v, h1, h2, h3⟩ := hc x p hx
          refine ⟨tC v, fun X ok => pe_glob (gl_of (by rw [ok.sc]; exact hg)) (by rw [ok.mg]; exact h1) h2 d1, fun σp y own h => ?_⟩
          cases h
          exact EvS.e fun F H σ s vr Q q => q v F H (Grow.refl s) (h3 F)
      · simp only [hg]
        exact SE.none
  · simp only [h0]
    exact SE.none

theorem big_line : big ≤ sizeLine := by rw [sizeLine_eq]; decide
theorem evEs_length {f : PySem.Expr → Out} : ∀ {es : List PySem.Expr} {xs : List PV}, evEs f es = some xs → xs.length = es.length
  | [], xs, h => by simp only [evEs] at h; cases h; rfl
  | e :: es, xs, h => by
    by_cases hs : ∃ a p, e = .Starred a p
    · obtain ⟨a, p, rfl⟩ := hs
      simp only [evEs] at h; cases h
    · have hs' : ∀ a p, e ≠ .Starred a p := fun a p q => hs ⟨a, p, q⟩
      have h' : ((f e).bind fun x => (evEs f es).map fun xs => x.1 :: xs) = some xs := by
        cases e <;> first | exact h | exact absurd rfl (hs' _ _)
      cases e1 : f e with
      | none => rw [e1] at h'; cases h'
      | some p =>
        rw [e1] at h'
        cases e2 : evEs f es with
        | none => rw [e2] at h'; cases h'
        | some ys =>
          rw [e2] at h'
          cases h'
          simp [evEs_length e2]
theorem se_tup {es : List PySem.Expr} {k : Nat} {pos : Pos} {f : Sl → Option (List PV)} (h : SA c sc asg es f) (hl : ∀ σp xs, f σp = some xs → xs.length = es.length) :
    SE c sc asg (.Tuple es k pos) fun σ => if es.length ≤ big then (f σ).bind fun xs => sh (.tup xs) else none := by
  by_cases hb : es.length ≤ big
  · simp only [hb, if_true]
    obtain ⟨t, h1, h2⟩ := h
    refine ⟨tTup t, fun X ok => pe_tup (h1 X ok), fun σp x own e => ?_⟩
    cases e1 : f σp with
    | none => simp [e1] at e
    | some xs =>
      simp only [e1, Option.bind_some] at e
      cases e
      refine EvS.e fun F H σ s vr Q q => ?_
      refine h2 σp xs e1 F H σ s vr _ fun vs F1 H1 g1 r1 => ?_
      refine ⟨by rw [r1.length, hl _ _ e1]; exact Nat.le_trans hb big_line, fun p hp => ?_⟩
      have g2 : Grow F1 H1 (upd F1 p (.tup vs)) (upd H1 p (.tup vs)) := Grow.laid g1.in_ hp
      exact q (.ref p) _ _ (g1.trans g2) (.tup (.inl (.inl upd_same)) (r1.mono g2.f))
  · simp only [hb]
    exact SE.none
theorem se_lst {es : List PySem.Expr} {pos : Pos} {f : Sl → Option (List PV)} (h : SA c sc asg es f) (hl : ∀ σp xs, f σp = some xs → xs.length = es.length) :
    SE c sc asg (.List es pos) fun σ => if es.length ≤ big then (f σ).bind fun xs => some (.lst xs, true) else none := by
  by_cases hb : es.length ≤ big
  · simp only [hb, if_true]
    obtain ⟨t, h1, h2⟩ := h
    refine ⟨tLst t, fun X ok => pe_lst (h1 X ok), fun σp x own e => ?_⟩
    cases e1 : f σp with
    | none => simp [e1] at e
    | some xs =>
      simp only [e1, Option.bind_some] at e
      cases e
      intro F H σ s vr Q q
      refine h2 σp xs e1 F H σ s vr _ fun vs F1 H1 g1 r1 => ?_
      refine ⟨by rw [r1.length, hl _ _ e1]; exact Nat.le_trans hb big_line, fun p hp => ?_⟩
      exact q (.ref p) _ _ (g1.trans (Grow.own g1.in_ hp)) (.mine (g1.h.free hp) (g1.in_.free hp) upd_same r1)
  · simp only [hb]
    exact SE.none
end
end Pv

/-! Part D: operators, comparisons, truth, items, slices -/
namespace Pv
open PySem L2 PySem.Spec PyProof.Rows

section
variable {X : Cx}
/-! ### readings that join several kinds -/
def CDivV (i j : Int) : Prop := j ≠ 0 ∧ j.natAbs.log2 < 9000
theorem op_fdivV : OpR X (binaryOp .FloorDiv) (rI CDivV fun i j => .int (i.fdiv j)) := opI fun i j _ _ _ _ _ hc q =>
  floordiv_int hc.1 q (.inl (PyProof.noPylong_of_log2 hc.2))
/-- list + list, both read -/
def rCatS (K : PySem.W.Frag) : R2 := fun x y H Q => ∃ l b xs zs, x = .ref l ∧ y = .ref b ∧ SqL K H l xs ∧ SqL K H b zs ∧ xs.length + zs.length ≤ sizeLine ∧ ∀ p, H p = none → Q (.ref p) (upd H p (.lst (xs ++ zs)))
theorem op_catS : OpR X (binaryOp .Add) (rCatS X.K) := by
  intro pins s σ H x y v u Q I rx ry h
  obtain ⟨l, b, xs, zs, rfl, rfl, hH, hB, hz, q⟩ := h
  cases rx
  cases ry
  obtain ⟨its, r, pl, z⟩ := I.list hH
  obtain ⟨its2, r2, pl2, z2⟩ := I.list hB
  obtain ⟨⟨cls, dd, data, sl⟩, n, ho, hc, hdd, hd⟩ := pl
  obtain ⟨⟨cls2, dd2, data2, sl2⟩, n2, ho2, hc2, hdd2, hd2⟩ := pl2
  simp only at hc hd hdd hc2 hd2 hdd2
  subst hc hd hc2 hd2
  have l1 := r.length
  have l2 := r2.length
  have e : its.toArray ++ its2.toArray = (its ++ its2).toArray := by simp
  refine concat_meets ⟨_, ho, rfl⟩ ⟨_, ho2, rfl⟩ noFill_list_add seq_list_add PySem.F.slot_list_add PySem.F.entry_list_add (PySem.F.args_list_add_2 _ _) (list_addW l b its.toArray its2.toArray n n2 dd dd2 sl sl2 (by simp; omega)) ⟨ho, ho2, ?_⟩
  rw [e]
  exact ⟨.ref _, _, I.lnew (t' := s.toks) (r.append r2) (by rw [List.length_append]; omega), rfl, q _ I.fresh⟩
def rStr : R2 := fun x y H Q => ∃ i j, x = .str i ∧ y = .str j ∧ i.length + j.length ≤ sizeLine ∧ Q (.str (i ++ j)) H
def rF : R2 := fun _ _ _ _ => False
theorem op_F {f : Value → Value → Sem Value} : OpR X f rF := fun _ _ _ _ _ _ _ _ _ _ _ _ h => h.elim
def rOr (r r' : R2) : R2 := fun x y H Q => r x y H Q ∨ r' x y H Q

def rB (K : PySem.W.Frag) : Operator → R2
  | .Add => rOr (rI0 fun i j => .int (i + j)) (rOr rStr (rOr (rCatS K) (rCatT K)))
  | .Sub => rI0 fun i j => .int (i - j)
  | .Mult => rI CMulW fun i j => .int (i * j)
  | .FloorDiv => rI CDivV fun i j => .int (i.fdiv j)
  | .Mod => rI (fun _ j => j ≠ 0) fun i j => .int (i.fmod j)
  | .Pow => rI CPow fun i j => .int (i ^ j.toNat)
  | _ => rF
theorem op_B (op : Operator) : OpR X (binaryOp op) (rB X.K op) := by
  cases op <;> first
    | exact op_F
    | exact OpR.or op_add (OpR.or op_add_str (OpR.or op_catS op_catT))
    | exact op_sub
    | exact op_mulW
    | exact op_fdivV
    | exact op_modN
    | exact op_pow
def rC (K : PySem.W.Frag) : CmpOp → R2
  | .Lt => rI0 fun i j => .bl (decide (i < j))
  | .LtE => rI0 fun i j => .bl (decide (i ≤ j))
  | .Gt => rI0 fun i j => .bl (decide (j < i))
  | .GtE => rI0 fun i j => .bl (decide (j ≤ i))
  | .Eq => rEqD K
  | .NotEq => rNeD K
  | .Is => fun x y H Q => y = .non ∧ Q (.bl (decide (x = .non))) H
  | .IsNot => fun x y H Q => y = .non ∧ Q (.bl (!decide (x = .non))) H
  | .In => rOr (rIn K false) (fun x y H Q => ∃ i j, x = .str i ∧ y = .str j ∧ Q (.bl (!(Builtin.Str.occurrences j i 0 j.length 1).isEmpty)) H)
  | .NotIn => rOr (rIn K true) (fun x y H Q => ∃ i j, x = .str i ∧ y = .str j ∧ Q (.bl (!(!(Builtin.Str.occurrences j i 0 j.length 1).isEmpty))) H)
theorem op_C (hu : X.A.units + 64 < cLine) (op : CmpOp) : OpR X (compareOp op) (rC X.K op) := by
  cases op with
  | Lt => exact op_lt
  | LtE => exact op_le
  | Gt => exact op_gt
  | GtE => exact op_ge
  | Eq => exact op_eqD hu
  | NotEq => exact op_neD hu
  | Is => exact op_isN
  | IsNot => exact op_notN
  | In => exact OpR.or op_in_seq op_in_str
  | NotIn => exact OpR.or op_notIn_seq L2.op_notIn_str
end

section
variable {K : PySem.W.Frag} {F H : Hp} {v u : V} {x y z : PV} {own : Bool}
theorem len_le {a b : Nat} (h : a + b ≤ big) : a + b ≤ sizeLine := Nat.le_trans h big_line
/-- an operator's reading, from what the evaluator says -/
theorem binop_ok {op : Operator} (h : binop op x y = some (z, own)) (s : Same F H) (rx : Rep K F v x) (ry : Rep K F u y) {Q : VK}
    (q : ∀ w F' H', Grow F H F' H' → Res K H F' H' w z own → Q w H') : rB K op v u H Q := by
  unfold binop at h
  split at h
  · rename_i i j
    cases h; cases rx; cases ry
    exact .inl ⟨i, j, rfl, rfl, q _ F H (Grow.refl s) (.of (.int _))⟩
  · rename_i a b
    split at h
    · rename_i hl
      cases h; cases rx; cases ry
      exact .inr (.inl ⟨a, b, rfl, rfl, len_le hl, q _ F H (Grow.refl s) (.of (.str _))⟩)
    · cases h
  · rename_i a b
    split at h
    · rename_i hl
      cases h
      obtain ⟨p, vs, rfl, h1, r1⟩ := rx.ofLst
      obtain ⟨p2, us, rfl, h2, r2⟩ := ry.ofLst
      refine .inr (.inr (.inl ⟨p, p2, vs, us, rfl, rfl, Same.sqL s h1, Same.sqL s h2, by rw [r1.length, r2.length]; exact len_le hl, fun l hl => ?_⟩))
      exact q _ _ _ (Grow.own s hl) (.mine hl (s.free hl) upd_same (r1.append r2))
    · cases h
  · rename_i a as b bs
    split at h
    · rename_i hl
      cases h
      obtain ⟨p, vs, rfl, h1, r1⟩ := rx.ofTup
      obtain ⟨p2, us, rfl, h2, r2⟩ := ry.ofTup
      have n1 : vs ≠ [] := fun e => by subst e; have := r1.length; simp at this
      have n2 : us ≠ [] := fun e => by subst e; have := r2.length; simp at this
      refine .inr (.inr (.inr ⟨p, p2, vs, us, rfl, rfl, Same.sqT s h1, Same.sqT s h2, n1, by rw [r1.length, r2.length]; exact len_le hl, fun e => absurd e n2, fun _ l hl => ?_⟩))
      have g := Grow.laid (o := .tup (vs ++ us)) s hl
      exact q _ _ _ g (.of (.tup (.inl (.inl upd_same)) ((r1.append r2).mono g.f)))
    · cases h
  · rename_i i j
    cases h; cases rx; cases ry
    exact ⟨i, j, rfl, rfl, q _ F H (Grow.refl s) (.of (.int _))⟩
  · rename_i i j
    split at h
    · rename_i hl
      cases h; cases rx; cases ry
      exact ⟨i, j, rfl, rfl, of_decide_eq_true (p := i.natAbs.log2 + j.natAbs.log2 < 1000000) hl, q _ F H (Grow.refl s) (.of (.int _))⟩
    · cases h
  · rename_i i j
    split at h
    · rename_i hl
      unfold divOk at hl
      rw [Bool.and_eq_true] at hl
      cases h; cases rx; cases ry
      exact ⟨i, j, rfl, rfl, ⟨of_decide_eq_true hl.1, of_decide_eq_true hl.2⟩, q _ F H (Grow.refl s) (.of (.int _))⟩
    · cases h
  · rename_i i j
    split at h
    · cases h
    · rename_i hl
      cases h; cases rx; cases ry
      exact ⟨i, j, rfl, rfl, hl, q _ F H (Grow.refl s) (.of (.int _))⟩
  · rename_i i j
    split at h
    · rename_i hl
      cases h; cases rx; cases ry
      exact ⟨i, j, rfl, rfl, ⟨hl.1, by omega, hl.2.2⟩, q _ F H (Grow.refl s) (.of (.int _))⟩
    · cases h
  · cases h

theorem flatP_ok {w : V} (h : flatP x = some w) (r : Rep K F v x) : v = w := by
  unfold flatP at h
  split at h <;> first
    | (cases h; cases r; rfl)
    | cases h
theorem flatPs_ok : ∀ {xs : List PV} {vs ws : List V}, flatPs xs = some ws → Reps K F vs xs → vs = ws
  | [], vs, ws, h, r => by simp only [flatPs] at h; cases h; cases r; rfl
  | x :: xs, vs, ws, h, r => by
    simp only [flatPs] at h
    cases e1 : flatP x with
    | none => simp [e1] at h
    | some w =>
      cases e2 : flatPs xs with
      | none => simp [e1, e2] at h
      | some us =>
        simp only [e1, e2, Option.bind_some, Option.map_some] at h
        cases h
        cases r with
        | cons r1 r2 => rw [flatP_ok e1 r1, flatPs_ok e2 r2]
theorem isIn_ok {b : Bool} {xs : List PV} {vs : List V} (h : isIn x xs = some b) (r : Rep K F v x) (rs : Reps K F vs xs) : flatV v = true ∧ vs.all flatV = true ∧ b = inV v vs := by
  unfold isIn at h
  cases e1 : flatP x with
  | none => simp [e1] at h
  | some w =>
    cases e2 : flatPs xs with
    | none => simp [e1, e2] at h
    | some us =>
      simp only [e1, e2, Option.bind_some] at h
      have a1 := flatP_ok e1 r
      have a2 := flatPs_ok e2 rs
      subst a1 a2
      split at h
      · rename_i hc
        rw [Bool.and_eq_true] at hc
        cases h
        exact ⟨hc.1, hc.2, rfl⟩
      · cases h
theorem eqD_ok {b : Bool} (h : eqD x y = some b) : SeqAt.shaped x.toD = true ∧ SeqAt.shaped y.toD = true ∧ b = PyData.eqv x.toD y.toD := by
  unfold eqD at h
  split at h
  · rename_i hc
    rw [Bool.and_eq_true] at hc
    cases h
    exact ⟨hc.1, hc.2, rfl⟩
  · cases h
theorem isNon_ok (r : Rep K F v x) (h : x ≠ .non) : decide (v = V.non) = false := by
  cases r <;> first | exact absurd rfl h | rfl
theorem cmp_ok {op : CmpOp} {b : Bool} (h : cmp op x y = some b) (s : Same F H) (rx : Rep K F v x) (ry : Rep K F u y) {Q : VK} (q : Q (.bl b) H) : rC K op v u H Q := by
  unfold cmp at h
  split at h
  · cases h; cases rx; cases ry; exact ⟨_, _, rfl, rfl, q⟩
  · cases h; cases rx; cases ry; exact ⟨_, _, rfl, rfl, q⟩
  · cases h; cases rx; cases ry; exact ⟨_, _, rfl, rfl, q⟩
  · cases h; cases rx; cases ry; exact ⟨_, _, rfl, rfl, q⟩
  · obtain ⟨h1, h2, rfl⟩ := eqD_ok h
    exact ⟨_, _, (rx.mono s).toD, (ry.mono s).toD, h1, h2, q⟩
  · cases e : eqD x y with
    | none => simp [e] at h
    | some k =>
      simp only [e, Option.map_some] at h
      cases h
      obtain ⟨h1, h2, rfl⟩ := eqD_ok e
      exact ⟨_, _, (rx.mono s).toD, (ry.mono s).toD, h1, h2, q⟩
  · cases h; cases rx; cases ry; exact ⟨rfl, q⟩
  · rename_i hn
    cases h; cases ry
    refine ⟨rfl, ?_⟩
    rw [isNon_ok rx (fun e => by subst e; simp at hn)]
    exact q
  · cases h; cases rx; cases ry; exact ⟨rfl, q⟩
  · rename_i hn
    cases h; cases ry
    refine ⟨rfl, ?_⟩
    rw [isNon_ok rx (fun e => by subst e; simp at hn)]
    exact q
  · obtain ⟨p, vs, rfl, h1, r1⟩ := ry.ofLst
    obtain ⟨f1, f2, rfl⟩ := isIn_ok h rx r1
    exact .inl ⟨p, vs, rfl, .inl (Same.sqL s h1), f1, f2, q⟩
  · obtain ⟨p, vs, rfl, h1, r1⟩ := ry.ofTup
    obtain ⟨f1, f2, rfl⟩ := isIn_ok h rx r1
    exact .inl ⟨p, vs, rfl, .inr (Same.sqT s h1), f1, f2, q⟩
  · rename_i xs
    cases e : isIn x xs with
    | none => simp [e] at h
    | some k =>
      simp only [e, Option.map_some] at h
      cases h
      obtain ⟨p, vs, rfl, h1, r1⟩ := ry.ofLst
      obtain ⟨f1, f2, rfl⟩ := isIn_ok e rx r1
      exact .inl ⟨p, vs, rfl, .inl (Same.sqL s h1), f1, f2, q⟩
  · rename_i xs
    cases e : isIn x xs with
    | none => simp [e] at h
    | some k =>
      simp only [e, Option.map_some] at h
      cases h
      obtain ⟨p, vs, rfl, h1, r1⟩ := ry.ofTup
      obtain ⟨f1, f2, rfl⟩ := isIn_ok e rx r1
      exact .inl ⟨p, vs, rfl, .inr (Same.sqT s h1), f1, f2, q⟩
  · cases h; cases rx; cases ry; exact .inr ⟨_, _, rfl, rfl, q⟩
  · cases h; cases rx; cases ry; exact .inr ⟨_, _, rfl, rfl, q⟩
  · cases h

theorem isEmpty_reps {vs : List V} {xs : List PV} (r : Reps K F vs xs) : vs.isEmpty = xs.isEmpty := by cases r <;> rfl
theorem truth_ok {b : Bool} (h : truth x = some b) (s : Same F H) (r : Rep K F v x) : TruV K v H b := by
  unfold truth at h
  split at h
  · cases h; cases r; rfl
  · cases h; cases r; rfl
  · cases h; cases r; rfl
  · split at h
    · rename_i hl
      cases h; cases r; exact ⟨Nat.le_trans hl big_line, rfl⟩
    · cases h
  · cases h
    obtain ⟨p, vs, rfl, h1, r1⟩ := r.ofLst
    exact .inl ⟨vs, Same.sqL s h1, by rw [isEmpty_reps r1]⟩
  · cases h
    obtain ⟨p, vs, rfl, h1, r1⟩ := r.ofTup
    exact .inr (.inl ⟨vs, Same.sqT s h1, by rw [isEmpty_reps r1]⟩)

theorem atI_reps {vs : List V} {xs : List PV} {i : Int} {y : PV} (r : Reps K F vs xs) (h : atI xs i = some y) : ∃ w, atI vs i = some w ∧ Rep K F w y := by
  unfold atI at h ⊢
  rw [r.length]
  cases e : ixN xs.length i with
  | none => simp [e] at h
  | some j =>
    simp only [e, Option.bind_some] at h ⊢
    exact r.get h
theorem getIx_ok (h : getIx x y = some (z, own)) (s : Same F H) (rx : Rep K F v x) (ry : Rep K F u y) {Q : VK} (q : ∀ w, Rep K F w z → Q w H) : rIx K v u H Q ∧ own = false := by
  unfold getIx at h
  split at h
  · rename_i xs i
    cases e : atI xs i with
    | none => simp [e] at h
    | some w =>
      simp only [e, Option.bind_some] at h
      cases h
      obtain ⟨p, vs, rfl, h1, r1⟩ := rx.ofLst
      cases ry
      obtain ⟨w', h2, r2⟩ := atI_reps r1 e
      exact ⟨.inl ⟨p, vs, i, w', rfl, rfl, Same.sqL s h1, h2, q _ r2⟩, rfl⟩
  · rename_i xs i
    cases e : atI xs i with
    | none => simp [e] at h
    | some w =>
      simp only [e, Option.bind_some] at h
      cases h
      obtain ⟨p, vs, rfl, h1, r1⟩ := rx.ofTup
      cases ry
      obtain ⟨w', h2, r2⟩ := atI_reps r1 e
      exact ⟨.inr (.inl ⟨p, vs, i, w', rfl, rfl, Same.sqT s h1, h2, q _ r2⟩), rfl⟩
  · rename_i z' i
    split at h
    · rename_i hl
      cases e : atI z'.cps.toList i with
      | none => simp [e] at h
      | some w =>
        simp only [e, Option.bind_some] at h
        cases h
        cases rx; cases ry
        exact ⟨.inr (.inr ⟨z', i, w, rfl, rfl, Nat.le_trans hl big_line, e, q _ (.str _)⟩), rfl⟩
    · cases h
  · cases h

def rSl (K : PySem.W.Frag) : V → Option Int → Option Int → Hp → VK → Prop := fun x lo hi H Q => rSlL K x lo hi H Q ∨ rSlT K x lo hi H Q
theorem sl_seq {X : Cx} : SlR X (rSl X.K) := SlR.or sl_list sl_tup
theorem getSl_ok {lo hi : Option Int} (h : getSl x lo hi = some (z, own)) (s : Same F H) (rx : Rep K F v x) {Q : VK} (q : ∀ w F' H', Grow F H F' H' → Res K H F' H' w z own → Q w H') : rSl K v lo hi H Q := by
  unfold getSl at h
  split at h
  · rename_i xs
    cases h
    obtain ⟨p, vs, rfl, h1, r1⟩ := rx.ofLst
    refine .inl ⟨p, vs, rfl, Same.sqL s h1, fun l hl => ?_⟩
    refine q _ _ _ (Grow.own s hl) (.mine hl (s.free hl) upd_same ?_)
    unfold cutV cutP
    rw [r1.length]
    exact (r1.drop _).take _
  · rename_i xs
    split at h
    · cases h
    · rename_i hc
      cases h
      obtain ⟨p, vs, rfl, h1, r1⟩ := rx.ofTup
      refine .inr ⟨p, vs, rfl, Same.sqT s h1, by rw [r1.length]; exact hc, fun l hl => ?_⟩
      have g := Grow.laid (o := .tup (cutV vs lo hi)) s hl
      have e : Reps K F (cutV vs lo hi) (cutP xs lo hi) := by
        unfold cutV cutP
        rw [r1.length]
        exact (r1.drop _).take _
      exact q _ _ _ g (.of (.tup (.inl (.inl upd_same)) (e.mono g.f)))
  · cases h
end
end Pv

/-! Part E: calls, comprehensions, all expressions -/
namespace Pv
open PySem L2 PySem.Spec PyProof.Rows

/-! ### calls of defs -/
/-- a def's promise by the evaluator's answer -/
def spOf (K : PySem.W.Frag) (n : Nat) (g : List PV → Option (PV × Bool)) : Sp := fun vs H Q _ => vs.length = n ∧ ∃ F xs x own, Same F H ∧ Reps K F vs xs ∧ g xs = some (x, own) ∧
  ∀ v F' H', Grow F H F' H' → Res K H F' H' v x own → Q v H'
/-- the defs stand behind the top and keep their promises -/
structure TabOk (c : Cc) (T : Tb) : Prop where
  con : ConOk c T.con
  pos : ∀ g n ds, T.dfl g n = some ds → ∃ f fd ps dvs us, c.mg g = some (.ref f) ∧ PySem.W.keepIn c.K (.ref f) = true ∧ FnOk c.P c.w c.K c.mg c.base CX0 c.d f fd ps (spOf c.K ps.length (T.raw g)) ∧ Binds c.K fd ps us ∧ Vals dvs us ∧
    (∀ F, Reps c.K F dvs ds) ∧ n + ds.length = ps.length
  key : ∀ g n ks, T.kwd g n ks = true → ∃ f fd ps g1 g2, c.mg g = some (.ref f) ∧ PySem.W.keepIn c.K (.ref f) = true ∧ FnOk c.P c.w c.K c.mg c.base CX0 c.d f fd ps (spOf c.K ps.length (T.raw g)) ∧ KBn c.K fd ps n ks g1 g2 ∧
    (∀ vs zs, g2 vs zs = vs ++ zs) ∧ n + ks.length = ps.length
  blt : ∀ x, isBlt x = true → c.mg x = none
  cls : ∀ x ty, tyNames.lookup x = some ty → c.mg x = none
  nd : c.N.Nodup

theorem plain_any {es : List PySem.Expr} {env : Env} {pos : Pos} (h : ∀ e ∈ es, ∀ a p, e ≠ .Starred a p) : (backTo pos (starEach es env)).any (·.1) = false := by
  induction es with
  | nil => rfl
  | cons e es ih =>
    rw [star_of (h e (List.mem_cons_self ..))]
    have := ih fun e' he => h e' (List.mem_cons_of_mem _ he)
    show ((false, _) :: backTo pos (starEach es env)).any (·.1) = false
    rw [List.any_cons, this]
    rfl
theorem noStar : ∀ {f : PySem.Expr → Out} {es : List PySem.Expr} {xs : List PV}, evEs f es = some xs → ∀ e ∈ es, ∀ a p, e ≠ .Starred a p
  | f, e :: es, xs, h, e', he, a, p => by
    rintro rfl
    rcases List.mem_cons.mp he with rfl | he
    · simp only [evEs] at h; cases h
    · by_cases hs : ∃ a p, e = .Starred a p
      · obtain ⟨a, p, rfl⟩ := hs
        simp only [evEs] at h; cases h
      · have hs' : ∀ a p, e ≠ .Starred a p := fun a p q => hs ⟨a, p, q⟩
        have h' : ((f e).bind fun x => (evEs f es).map fun xs => x.1 :: xs) = some xs := by
          cases e <;> first | exact h | exact absurd rfl (hs' _ _)
        cases e1 : f e with
        | none => rw [e1] at h'; cases h'
        | some q =>
          rw [e1] at h'
          cases e2 : evEs f es with
          | none => rw [e2] at h'; cases h'
          | some ys => exact noStar e2 _ he a p rfl
def starB (es : List PySem.Expr) : Bool := es.any fun e => match e with | .Starred _ _ => true | _ => false
theorem starB_no {es : List PySem.Expr} (h : starB es = false) : ∀ e ∈ es, ∀ a p, e ≠ .Starred a p := by
  rintro e he a p rfl
  unfold starB at h
  rw [List.any_eq_false] at h
  exact h _ he rfl
theorem starB_ev {f : PySem.Expr → Out} {es : List PySem.Expr} {xs : List PV} (h : evEs f es = some xs) : starB es = false := by
  unfold starB
  rw [List.any_eq_false]
  intro e he
  have := noStar h e he
  cases e <;> first | exact absurd rfl (this _ _) | simp

section
variable {c : Cc} {sc : Scope} {asg : Str → Bool} {T : Tb}
theorem ea_nil {K : PySem.W.Frag} {σp : Sl} : EvA K tNil σp [] := fun F H σ s vr Q q => q [] F H (Grow.refl s) .nil
theorem sa_nil : SA c sc asg [] fun _ => some [] := ⟨tNil, fun _ _ => pa_nil, fun σp xs h => by
  cases h
  intro F H σ s vr Q q
  exact q [] F H (Grow.refl s) .nil⟩
theorem call_ev {f : Str} {t : TA} {ps : List Str} {dvs : List V} {ds xs : List PV} {σp : Sl} {y : PV} {own : Bool} {E : XK} (a2 : EvA c.K t σp xs) (h6 : ∀ F, Reps c.K F dvs ds) (hl : xs.length + ds.length = ps.length)
    (e : T.raw f (xs ++ ds) = some (y, own)) : EvE c.K (tCall (spOf c.K ps.length (T.raw f)) dvs E t) σp y own := by
  intro F H σ s vr Q q
  refine a2 F H σ s vr _ fun vs F1 H1 g1 r1 => ?_
  refine ⟨?_, F1, xs ++ ds, y, own, g1.in_, r1.append (h6 F1), e, fun v F' H' g2 r2 => q v F' H' (g1.trans g2) (r2.mono g1.h)⟩
  rw [List.length_append, r1.length, (h6 F1).length]
  exact hl
theorem SE.map {e : PySem.Expr} {f g : Sl → Out} (h : SE c sc asg e f) (q : ∀ σ x own, g σ = some (x, own) → ∃ o, f σ = some (x, o) ∧ (own = true → o = true)) : SE c sc asg e g := by
  obtain ⟨t, a, b⟩ := h
  refine ⟨t, a, fun σp x own e => ?_⟩
  obtain ⟨o, e1, e2⟩ := q σp x own e
  cases own with
  | true => rw [e2 rfl] at e1; exact b σp x true e1
  | false => exact (b σp x o e1).s.e
theorem call_raw {f : Str} {xs : List PV} {x : PV} {own : Bool} (h : T.call f xs = some (x, own)) : ∃ o, T.raw f xs = some (x, o) ∧ (own = true → o = true) := by
  unfold Tb.call at h
  split at h
  · cases e : T.raw f xs with
    | none => simp [e, ownO] at h
    | some p =>
      obtain ⟨y, o⟩ := p
      rw [e] at h
      cases y <;> cases o <;> simp [ownO] at h
      obtain ⟨rfl, rfl⟩ := h
      exact ⟨true, rfl, fun _ => rfl⟩
  · cases e : T.raw f xs with
    | none => simp [e, fstO] at h
    | some p =>
      obtain ⟨y, o⟩ := p
      rw [e] at h
      simp [fstO] at h
      obtain ⟨rfl, rfl⟩ := h
      exact ⟨o, rfl, fun h => by cases h⟩
theorem se_call0 {f : Str} {fp pos : Pos} {es : List PySem.Expr} {ds : List PV} {g : Sl → Option (List PV)} (ok : TabOk c T) (h0 : okNm f = true) (hg : glB sc f = true) (hd : T.dfl f es.length = some ds) (h : SA c sc asg es g)
    (hl : ∀ σp xs, g σp = some xs → xs.length = es.length ∧ starB es = false) : SE c sc asg (.Call (.Name f fp) es [] pos) fun σ => (g σ).bind fun xs => T.raw f (xs ++ ds) := by
  obtain ⟨fa, fd, ps, dvs, us, h1, h2, h3, h4, h5, h6, h7⟩ := ok.pos f es.length ds hd
  obtain ⟨t, a1, a2⟩ := h
  have d0 := (okNm_d h0).1
  have base : ∀ X, CxOk c sc asg X → FnOk X.prog X.w X.K X.mg X.base CX0 c.d fa fd ps (spOf c.K ps.length (T.raw f)) ∧ Gl X f ∧ X.mg f = some (.ref fa) ∧ PySem.W.keepIn X.K (.ref fa) = true ∧ Binds X.K fd ps us := fun X x =>
    ⟨by rw [x.P, x.w, x.K, x.mg, x.base]; exact h3, gl_of (by rw [x.sc]; exact hg), by rw [x.mg]; exact h1, by rw [x.K]; exact h2, by rw [x.K]; exact h4⟩
  cases es with
  | nil =>
    refine ⟨tCall (spOf c.K ps.length (T.raw f)) dvs E0 tNil, fun X x => ?_, fun σp y own e => ?_⟩
    · obtain ⟨F, G, M, KK, B⟩ := base X x
      exact pe_call0 F x.rm G M KK B h5 pass0 d0
    · cases e1 : g σp with
      | none => simp [e1] at e
      | some xs =>
        simp only [e1, Option.bind_some] at e
        have hx : xs = [] := List.eq_nil_of_length_eq_zero (hl _ _ e1).1
        subst hx
        exact call_ev (xs := []) ea_nil h6 (by rw [← h7]; rfl) e
  | cons e0 es =>
    by_cases hs : starB (e0 :: es) = false
    · refine ⟨tCall (spOf c.K ps.length (T.raw f)) dvs E0 t, fun X x => ?_, fun σp y own e => ?_⟩
      · obtain ⟨F, G, M, KK, B⟩ := base X x
        exact pe_call F x.rm G M KK B h5 pass0 (a1 X x) d0 (star_of (starB_no hs e0 (List.mem_cons_self ..))) (plain_any fun e' he => starB_no hs e' (List.mem_cons_of_mem _ he))
      · cases e1 : g σp with
        | none => simp [e1] at e
        | some xs =>
          simp only [e1, Option.bind_some] at e
          exact call_ev (a2 σp xs e1) h6 (by rw [(hl _ _ e1).1]; exact h7) e
    · refine ⟨tF, fun _ _ => pe_F, fun σp y own e => ?_⟩
      cases e1 : g σp with
      | none => simp [e1] at e
      | some xs => exact absurd (hl _ _ e1).2 hs
theorem se_call {f : Str} {fp pos : Pos} {es : List PySem.Expr} {ds : List PV} {g : Sl → Option (List PV)} (ok : TabOk c T) (h0 : okNm f = true) (hg : glB sc f = true) (hd : T.dfl f es.length = some ds) (h : SA c sc asg es g)
    (hl : ∀ σp xs, g σp = some xs → xs.length = es.length ∧ starB es = false) : SE c sc asg (.Call (.Name f fp) es [] pos) fun σ => (g σ).bind fun xs => T.call f (xs ++ ds) :=
  (se_call0 ok h0 hg hd h hl).map fun σ x own e => by
    obtain ⟨xs, e1, e2⟩ := Option.bind_eq_some_iff.mp e
    obtain ⟨o, e3, e4⟩ := call_raw e2
    exact ⟨o, by rw [e1]; exact e3, e4⟩
/-- f(e, .., k = v) -/
theorem se_callK0 {f k : Str} {fp pos kp : Pos} {e0 v : PySem.Expr} {es : List PySem.Expr} {g : Sl → Option (List PV)} {gv : Sl → Out} (ok : TabOk c T) (h0 : okNm f = true) (hg : glB sc f = true) (hd : T.kwd f (e0 :: es).length [k] = true) (h : SA c sc asg (e0 :: es) g) (hv : SE c sc asg v gv)
    (hl : ∀ σp xs, g σp = some xs → xs.length = (e0 :: es).length ∧ starB (e0 :: es) = false) : SE c sc asg (.Call (.Name f fp) (e0 :: es) [⟨some k, v, kp⟩] pos) fun σ => (g σ).bind fun xs => (gv σ).bind fun y => T.raw f (xs ++ [y.1]) := by
  obtain ⟨fa, fd, ps, g1, g2, h1, h2, h3, h4, h5, h6⟩ := ok.key f (e0 :: es).length [k] hd
  obtain ⟨t, a1, a2⟩ := h
  obtain ⟨tv, b1, b2⟩ := hv
  have d0 := (okNm_d h0).1
  by_cases hs : starB (e0 :: es) = false
  · refine ⟨tCallN (e0 :: es).length [k].length (spOf c.K ps.length (T.raw f)) g2 E0 t (tCons tv tNil), fun X x => ?_, fun σp y own e => ?_⟩
    · have F : FnOk X.prog X.w X.K X.mg X.base CX0 c.d fa fd ps (spOf c.K ps.length (T.raw f)) := by rw [x.P, x.w, x.K, x.mg, x.base]; exact h3
      have B : KBn X.K fd ps (e0 :: es).length [k] g1 g2 := by rw [x.K]; exact h4
      refine pe_callN F x.rm (gl_of (by rw [x.sc]; exact hg)) (by rw [x.mg]; exact h1) (by rw [x.K]; exact h2) B pass0 (a1 X x) (pk_cons (b1 X x) pk_nil) rfl rfl d0 (star_of (starB_no hs e0 (List.mem_cons_self ..))) ?_
      rw [plain_any (starB_no hs)]
      rfl
    · cases e1 : g σp with
      | none => simp [e1] at e
      | some xs =>
        cases e2 : gv σp with
        | none => simp [e1, e2] at e
        | some z =>
          simp only [e1, e2, Option.bind_some] at e
          intro F H σ s vr Q q
          refine a2 σp xs e1 F H σ s vr _ fun vs F1 H1 g1 r1 => ?_
          refine (b2 σp z.1 z.2 e2).s F1 H1 σ g1.in_ (vr.mono g1.f) _ fun w F2 H2 g2' r2 => ?_
          refine ⟨by rw [r1.length]; exact (hl _ _ e1).1, rfl, ?_⟩
          rw [h5]
          refine ⟨?_, F2, xs ++ [z.1], y, own, g2'.in_, (r1.mono g2'.f).append (.cons r2 .nil), e, fun v F' H' g3 r3 => q v F' H' ((g1.trans g2').trans g3) (r3.mono (g1.h.trans g2'.h))⟩
          rw [List.length_append, r1.length, (hl _ _ e1).1]
          exact h6
  · refine ⟨tF, fun _ _ => pe_F, fun σp y own e => ?_⟩
    cases e1 : g σp with
    | none => simp [e1] at e
    | some xs => exact absurd (hl _ _ e1).2 hs

theorem se_callK {f k : Str} {fp pos kp : Pos} {e0 v : PySem.Expr} {es : List PySem.Expr} {g : Sl → Option (List PV)} {gv : Sl → Out} (ok : TabOk c T) (h0 : okNm f = true) (hg : glB sc f = true) (hd : T.kwd f (e0 :: es).length [k] = true) (h : SA c sc asg (e0 :: es) g) (hv : SE c sc asg v gv)
    (hl : ∀ σp xs, g σp = some xs → xs.length = (e0 :: es).length ∧ starB (e0 :: es) = false) : SE c sc asg (.Call (.Name f fp) (e0 :: es) [⟨some k, v, kp⟩] pos) fun σ => (g σ).bind fun xs => (gv σ).bind fun y => T.call f (xs ++ [y.1]) :=
  (se_callK0 ok h0 hg hd h hv hl).map fun σ x own e => by
    obtain ⟨xs, e1, e2⟩ := Option.bind_eq_some_iff.mp e
    obtain ⟨y, e5, e2⟩ := Option.bind_eq_some_iff.mp e2
    obtain ⟨o, e3, e4⟩ := call_raw e2
    exact ⟨o, by rw [e1, e5]; exact e3, e4⟩
/-! ### calls of built-ins -/
def rLen (K : PySem.W.Frag) : List V → Hp → VK → Prop := fun xs H Q => (∃ p ys, xs = [.ref p] ∧ (SqL K H p ys ∨ SqT K H p ys) ∧ Q (.int ys.length) H) ∨ (∃ z, xs = [.str z] ∧ z.length ≤ sizeLine ∧ Q (.int z.length) H)
theorem cr_len {X : Cx} : CallR X (.builtin "len") (rLen X.K) := CallR.or call_len_seq call_len_str
inductive BR (K : PySem.W.Frag) : Str → (Value) → (List V → Hp → VK → Prop) → Prop
  | len : BR K "len" (.builtin "len") (rLen K)
  | abs : BR K "abs" (.builtin "abs") (fun xs H Q => ∃ i, xs = [.int i] ∧ Q (.int (if i < 0 then -i else i)) H)
  | int : BR K "int" (.type "int") (fun xs H Q => (∃ i, xs = [.int i] ∧ Q (.int i) H) ∨ ∃ k, xs = [.bl k] ∧ Q (.int (if k then 1 else 0)) H)
  | list : BR K "list" (.type "list") (fun xs H Q => ∃ p ys, xs = [.ref p] ∧ (SqL K H p ys ∨ SqT K H p ys) ∧ ∀ l, H l = none → Q (.ref l) (upd H l (.lst ys)))
  | tuple : BR K "tuple" (.type "tuple") (fun xs H Q => ∃ p ys, xs = [.ref p] ∧ ((SqL K H p ys ∧ ∀ l, H l = none → Q (.ref l) (upd H l (.tup ys))) ∨ (SqT K H p ys ∧ Q (.ref p) H)))
  | str : BR K "str" (.type "str") (fun xs H Q => ∃ i, xs = [.int i] ∧ i.natAbs.log2 < 1920 ∧ Q (.str (toString i)) H)
theorem BR.pe {X : Cx} {f : Str} {b : Value} {r : List V → Hp → VK → Prop} {fp pos : Pos} {e0 : PySem.Expr} {es : List PySem.Expr} {t : TA} (h : BR X.K f b r) (hg : Gl X f) (hm : X.mg f = none) (ha : PA X (e0 :: es) t)
    (he : starEach (e0 :: es) X.env = (false, eval e0 X.env) :: starEach es X.env) (hpl : (backTo pos (starEach es X.env)).any (·.1) = false) : PE X (.Call (.Name f fp) (e0 :: es) [] pos) (tCB r t) := by
  cases h with
  | len => exact pe_callB cr_len hg hm PySem.boot_len ha (by decide +kernel) (by decide +kernel) he hpl
  | abs => exact pe_callB call_abs hg hm (by decide +kernel) ha (by decide +kernel) (by decide +kernel) he hpl
  | int => exact pe_callTy call_int1 hg hm (by decide +kernel) ha (by decide +kernel) (by decide +kernel) he hpl
  | list => exact pe_callTy call_list_of hg hm (by decide +kernel) ha (by decide +kernel) (by decide +kernel) he hpl
  | tuple => exact pe_callTy call_tuple_of hg hm (by decide +kernel) ha (by decide +kernel) (by decide +kernel) he hpl
  | str => exact pe_callTy call_str_int hg hm (by decide +kernel) ha (by decide +kernel) (by decide +kernel) he hpl
theorem blt_rule {K : PySem.W.Frag} {f : Str} {xs : List PV} {z : PV} {own : Bool} (h : blt f xs = some (z, own)) : ∃ b r, BR K f b r := by
  unfold blt at h
  split at h; · subst_vars; exact ⟨_, _, .len⟩
  split at h; · subst_vars; exact ⟨_, _, .abs⟩
  split at h; · subst_vars; exact ⟨_, _, .int⟩
  split at h; · subst_vars; exact ⟨_, _, .list⟩
  split at h; · subst_vars; exact ⟨_, _, .tuple⟩
  split at h; · subst_vars; exact ⟨_, _, .str⟩
  cases h
theorem blt_ok {K : PySem.W.Frag} {F H : Hp} {f : Str} {xs : List PV} {vs : List V} {z : PV} {own : Bool} {b : Value} {r : List V → Hp → VK → Prop} (hb : BR K f b r) (h : blt f xs = some (z, own)) (s : Same F H) (rs : Reps K F vs xs) {Q : VK}
    (q : ∀ w F' H', Grow F H F' H' → Res K H F' H' w z own → Q w H') : r vs H Q := by
  cases hb with
  | len =>
    unfold blt at h
    rw [if_pos rfl] at h
    split at h
    · cases h; cases rs with | cons r1 r2 => cases r2; obtain ⟨p, us, rfl, h1, r1⟩ := r1.ofLst; exact .inl ⟨p, us, rfl, .inl (Same.sqL s h1), by rw [r1.length]; exact q _ F H (Grow.refl s) (.of (.int _))⟩
    · cases h; cases rs with | cons r1 r2 => cases r2; obtain ⟨p, us, rfl, h1, r1⟩ := r1.ofTup; exact .inl ⟨p, us, rfl, .inr (Same.sqT s h1), by rw [r1.length]; exact q _ F H (Grow.refl s) (.of (.int _))⟩
    · split at h
      · rename_i hl
        cases h; cases rs with | cons r1 r2 => cases r2; cases r1; exact .inr ⟨_, rfl, Nat.le_trans hl big_line, q _ F H (Grow.refl s) (.of (.int _))⟩
      · cases h
    · cases h
  | abs =>
    unfold blt at h
    rw [if_neg (by decide +kernel), if_pos rfl] at h
    split at h
    · cases h; cases rs with | cons r1 r2 => cases r2; cases r1; exact ⟨_, rfl, q _ F H (Grow.refl s) (.of (.int _))⟩
    · cases h
  | int =>
    unfold blt at h
    rw [if_neg (by decide +kernel), if_neg (by decide +kernel), if_pos rfl] at h
    split at h
    · cases h; cases rs with | cons r1 r2 => cases r2; cases r1; exact .inl ⟨_, rfl, q _ F H (Grow.refl s) (.of (.int _))⟩
    · cases h; cases rs with | cons r1 r2 => cases r2; cases r1; exact .inr ⟨_, rfl, q _ F H (Grow.refl s) (.of (.int _))⟩
    · cases h
  | list =>
    unfold blt at h
    rw [if_neg (by decide +kernel), if_neg (by decide +kernel), if_neg (by decide +kernel), if_pos rfl] at h
    split at h
    · cases h; cases rs with | cons r1 r2 => cases r2; obtain ⟨p, us, rfl, h1, r1⟩ := r1.ofLst; exact ⟨p, us, rfl, .inl (Same.sqL s h1), fun l hl => q _ _ _ (Grow.own s hl) (.mine hl (s.free hl) upd_same r1)⟩
    · cases h; cases rs with | cons r1 r2 => cases r2; obtain ⟨p, us, rfl, h1, r1⟩ := r1.ofTup; exact ⟨p, us, rfl, .inr (Same.sqT s h1), fun l hl => q _ _ _ (Grow.own s hl) (.mine hl (s.free hl) upd_same r1)⟩
    · cases h
  | tuple =>
    unfold blt at h
    rw [if_neg (by decide +kernel), if_neg (by decide +kernel), if_neg (by decide +kernel), if_neg (by decide +kernel), if_pos rfl] at h
    split at h
    · cases h; cases rs with | cons r1 r2 => cases r2; obtain ⟨p, us, rfl, h1, r1⟩ := r1.ofLst; exact ⟨p, us, rfl, .inl ⟨Same.sqL s h1, fun l hl => by
        have g := Grow.laid (o := .tup us) s hl
        exact q _ _ _ g (.of (.tup (.inl (.inl upd_same)) (r1.mono g.f)))⟩⟩
    · cases h; cases rs with | cons r1 r2 => cases r2; obtain ⟨p, us, rfl, h1, r1⟩ := r1.ofTup; exact ⟨p, us, rfl, .inr ⟨Same.sqT s h1, q _ F H (Grow.refl s) (.of (.tup h1 r1))⟩⟩
    · cases h
  | str =>
    unfold blt at h
    rw [if_neg (by decide +kernel), if_neg (by decide +kernel), if_neg (by decide +kernel), if_neg (by decide +kernel), if_neg (by decide +kernel), if_pos rfl] at h
    split at h
    · split at h
      · rename_i hl
        cases h; cases rs with | cons r1 r2 => cases r2; cases r1; exact ⟨_, rfl, hl, q _ F H (Grow.refl s) (.of (.str _))⟩
      · cases h
    · cases h
theorem se_blt0 {f : Str} {fp pos : Pos} {e0 : PySem.Expr} {es : List PySem.Expr} {g : Sl → Option (List PV)} (ok : TabOk c T) (hb : isBlt f = true) (hg : glB sc f = true) (h : SA c sc asg (e0 :: es) g)
    (hl : ∀ σp xs, g σp = some xs → starB (e0 :: es) = false) : SE c sc asg (.Call (.Name f fp) (e0 :: es) [] pos) fun σ => (g σ).bind fun xs => blt f xs := by
  by_cases hr : ∃ b r, BR c.K f b r
  · obtain ⟨b, r, hr⟩ := hr
    obtain ⟨t, a1, a2⟩ := h
    by_cases hs : starB (e0 :: es) = false
    · refine ⟨tCB r t, fun X x => ?_, fun σp y own e => ?_⟩
      · exact BR.pe (by rw [x.K]; exact hr) (gl_of (by rw [x.sc]; exact hg)) (by rw [x.mg]; exact ok.blt f hb) (a1 X x) (star_of (starB_no hs e0 (List.mem_cons_self ..))) (plain_any fun e' he => starB_no hs e' (List.mem_cons_of_mem _ he))
      · cases e1 : g σp with
        | none => simp [e1] at e
        | some xs =>
          simp only [e1, Option.bind_some] at e
          intro F H σ s vr Q q
          refine a2 σp xs e1 F H σ s vr _ fun vs F1 H1 g1 r1 => ?_
          exact blt_ok hr e g1.in_ r1 fun w F' H' g2 r2 => q w F' H' (g1.trans g2) (r2.mono g1.h)
    · refine ⟨tF, fun _ _ => pe_F, fun σp y own e => ?_⟩
      cases e1 : g σp with
      | none => simp [e1] at e
      | some xs => exact absurd (hl _ _ e1) hs
  · refine ⟨tF, fun _ _ => pe_F, fun σp y own e => ?_⟩
    cases e1 : g σp with
    | none => simp [e1] at e
    | some xs =>
      simp only [e1, Option.bind_some] at e
      exact absurd (blt_rule e) hr
theorem bltV_raw {f : Str} {xs : List PV} {x : PV} {own : Bool} (h : bltV f xs = some (x, own)) : ∃ o, blt f xs = some (x, o) ∧ (own = true → o = true) := by
  unfold bltV at h
  split at h
  · rename_i hf
    subst hf
    refine ⟨own, ?_, fun h => h⟩
    unfold blt
    rw [if_neg (by decide +kernel), if_neg (by decide +kernel), if_neg (by decide +kernel), if_pos rfl]
    exact h
  · cases e : blt f xs with
    | none => simp [e] at h
    | some p =>
      simp [e, sh] at h
      obtain ⟨rfl, rfl⟩ := h
      exact ⟨p.2, rfl, fun h => by cases h⟩
theorem se_blt {f : Str} {fp pos : Pos} {e0 : PySem.Expr} {es : List PySem.Expr} {g : Sl → Option (List PV)} (ok : TabOk c T) (hb : isBlt f = true) (hg : glB sc f = true) (h : SA c sc asg (e0 :: es) g)
    (hl : ∀ σp xs, g σp = some xs → starB (e0 :: es) = false) : SE c sc asg (.Call (.Name f fp) (e0 :: es) [] pos) fun σ => (g σ).bind fun xs => bltV f xs :=
  (se_blt0 ok hb hg h hl).map fun σ x own e => by
    obtain ⟨xs, e1, e2⟩ := Option.bind_eq_some_iff.mp e
    obtain ⟨o, e3, e4⟩ := bltV_raw e2
    exact ⟨o, by rw [e1]; exact e3, e4⟩
end
end Pv

/-! Part F: isinstance, what is walked, comprehensions -/
namespace Pv
open PySem L2 PySem.Spec PyProof.Rows

section
variable {c : Cc} {sc : Scope} {asg : Str → Bool} {T : Tb}
theorem tyX_of {K : PySem.W.Frag} {F H : Hp} {v : V} {x : PV} {ty : String} {b : Bool} (h : clsIs ty x = some b) (s : Same F H) (r : Rep K F v x) : ∃ t : String, TyX K H v (.type t) ∧ kitB t ty = some b := by
  unfold clsIs at h
  split at h
  · cases r; exact ⟨_, .base .non, h⟩
  · cases r; exact ⟨_, .base (.bl _), h⟩
  · cases r; exact ⟨_, .base (.int _), h⟩
  · cases r; exact ⟨_, .base (.str _), h⟩
  · obtain ⟨p, vs, rfl, h1, r1⟩ := r.ofTup
    refine ⟨"tuple", ?_, h⟩
    rcases Same.sqT s h1 with (h2 | ⟨o, h2⟩) | ⟨o, its, n, h2, h3, h4⟩
    · exact .base (.tup h2)
    · exact .fTuple h2
    · exact .kTuple h2 h3
  · obtain ⟨p, vs, rfl, h1, r1⟩ := r.ofLst
    refine ⟨"list", ?_, h⟩
    rcases Same.sqL s h1 with (h2 | ⟨o, h2⟩) | ⟨o, its, n, h2, h3, h4⟩
    · exact .base (.lst h2)
    · exact .base (.frz h2)
    · exact .kList h2 h3
theorem isi_boot : bootBuiltins ("isinstance" : Str) = some (.builtin "isinstance") := by decide +kernel
theorem ty_boot {x : Str} {ty : String} (h : tyNames.lookup x = some ty) : bootBuiltins x = some (.type ty) ∧ x ≠ "__name__" ∧ (x == ("__debug__" : Str)) = false := by
  have hm : (x, ty) ∈ tyNames := PySem.mem_of_lookup h
  have all : tyNames.all (fun p => decide (bootBuiltins p.1 = some (.type p.2)) && decide (p.1 ≠ ("__name__" : Str)) && (decide ((p.1 == ("__debug__" : Str)) = false))) = true := by decide +kernel
  have := List.all_eq_true.mp all _ hm
  simp only [Bool.and_eq_true, decide_eq_true_eq] at this
  exact ⟨this.1.1, this.1.2, this.2⟩
theorem se_isi {fp tp pos : Pos} {a : PySem.Expr} {t : Str} {ty : String} {g : Sl → Out} (ok : TabOk c T) (hg : glB sc "isinstance" = true) (ht : glB sc t = true) (hy : tyNames.lookup t = some ty) (h : SE c sc asg a g) (h0 : ∀ e p, a = .Starred e p → ∀ σ, g σ = none) :
    SE c sc asg (.Call (.Name "isinstance" fp) [a, .Name t tp] [] pos) fun σ => (g σ).bind fun x => (clsIs ty x.1).bind fun b => sh (.bl b) := by
  obtain ⟨ta, a1, a2⟩ := h
  obtain ⟨b1, b2, b3⟩ := ty_boot hy
  by_cases hs : ∃ e p, a = .Starred e p
  · obtain ⟨e, p, rfl⟩ := hs
    refine ⟨tF, fun _ _ => pe_F, fun σp y own e' => ?_⟩
    simp [h0 e p rfl] at e'
  · have hs' : ∀ e p, a ≠ .Starred e p := fun e p q => hs ⟨e, p, q⟩
    refine ⟨tCB (rIsi c.K) (tCons ta (tCons (tC (.ty ty)) tNil)), fun X x => ?_, fun σp y own e => ?_⟩
    · have hc : CallR X (.builtin "isinstance") (rIsi c.K) := by rw [← x.K]; exact call_isi
      exact pe_callB hc (gl_of (by rw [x.sc]; exact hg)) (by rw [x.mg]; exact ok.blt _ (by decide +kernel)) isi_boot
        (pa_cons (a1 X x) (pa_cons (pe_bltn (v := .ty ty) (gl_of (by rw [x.sc]; exact ht)) (by rw [x.mg]; exact ok.cls _ _ hy) b1 rfl b2 b3) pa_nil) (star_of hs')) (by decide +kernel) (by decide +kernel) (star_of hs')
    · cases e1 : g σp with
      | none => simp [e1] at e
      | some p =>
        obtain ⟨x, o⟩ := p
        cases e2 : clsIs ty x with
        | none => simp [e1, e2] at e
        | some b =>
          simp only [e1, e2, Option.bind_some] at e
          cases e
          refine EvS.e fun F H σ s vr Q q => ?_
          refine (a2 σp x o e1).s F H σ s vr _ fun v F1 H1 g1 r1 => ?_
          obtain ⟨t', h1, h2⟩ := tyX_of e2 g1.in_ r1
          exact ⟨v, .ty ty, .type t', .type ty, b, rfl, .ty ty, h1, kit_ty h2, q _ F1 H1 g1 (.bl b)⟩

/-! ### what is walked -/
def iSeq (K : PySem.W.Frag) (tl : TE) : TI := fun σ H R => tl σ H fun x H1 => ∃ a, x = .ref a ∧ (((∃ xs, SqL K H1 a xs) ∧ R (Itl K a) H1) ∨ ((∃ xs, SqT K H1 a xs) ∧ R (Itt K a) H1))
theorem pi_seq {X : Cx} {tg l : PySem.Expr} {tl : TE} (hl : PE X l tl) : PI X tg l (iSeq X.K tl) := by
  refine ⟨fun pins s σ H R I h => ?_⟩
  refine thn (hl.run pins s σ H _ I h) fun v s1 ⟨x, H1, I1, r1, q1⟩ => ?_
  obtain ⟨a, e, q⟩ := q1
  subst e
  cases r1
  rcases q with ⟨⟨xs, hq⟩, q⟩ | ⟨⟨xs, hq⟩, q⟩
  · obtain ⟨its, rv, p, hz⟩ := I1.list hq
    refine wpAny_pyIter_list p.isList ?_
    refine ⟨s1.heap.objs.size, [s1.heap.objs.size], _, _, H1, rfl, I1.kept (t' := s1.toks) fun b o e => Heap.get?_push_of_some _ e, turn_list a _, ⟨_, Heap.get?_push_size _ rfl, rfl, rfl⟩, fun b hb => ?_, q⟩
    have e : b = s1.heap.objs.size := by simpa using hb
    subst e
    exact I1.fpOk (Nat.le_refl _) (I1.hok.fresh (Nat.le_refl _))
  · obtain ⟨its, rv, p, hz⟩ := I1.tuple hq
    refine wpAny_pyIter_tuple (show s1.heap.IsTuple a its.toArray from p) ?_
    refine ⟨s1.heap.objs.size, [s1.heap.objs.size], _, _, H1, rfl, I1.kept (t' := s1.toks) fun b o e => Heap.get?_push_of_some _ e, turn_tuple a _, ⟨_, Heap.get?_push_size _ rfl, rfl, rfl⟩, fun b hb => ?_, q⟩
    have e : b = s1.heap.objs.size := by simpa using hb
    subst e
    exact I1.fpOk (Nat.le_refl _) (I1.hok.fresh (Nat.le_refl _))
theorem itok_l {K : PySem.W.Frag} {F : Hp} {a : Addr} {vs : List V} (h : SqL K F a vs) : ItOk (Itl K a) F vs := fun H i s =>
  ⟨fun hi => ⟨⟨vs, vs[i], Same.sqL s h, by simp [hi]⟩, fun x H' y => ⟨y.1, y.2 vs (Same.sqL s h)⟩⟩, fun hi => ⟨vs, Same.sqL s h, hi⟩⟩
theorem itok_t {K : PySem.W.Frag} {F : Hp} {a : Addr} {vs : List V} (h : SqT K F a vs) : ItOk (Itt K a) F vs := fun H i s =>
  ⟨fun hi => ⟨⟨vs, vs[i], Same.sqT s h, by simp [hi]⟩, fun x H' y => ⟨y.1, y.2 vs (Same.sqT s h)⟩⟩, fun hi => ⟨vs, Same.sqT s h, hi⟩⟩
def vInts (lo : Int) : Nat → List V
  | 0 => []
  | n + 1 => .int lo :: vInts (lo + 1) n
theorem vInts_len : ∀ (lo : Int) (n : Nat), (vInts lo n).length = n
  | _, 0 => rfl
  | lo, n + 1 => by show (vInts (lo + 1) n).length + 1 = n + 1; rw [vInts_len]
theorem vInts_get : ∀ (n : Nat) (lo : Int) (i : Nat), i < n → (vInts lo n)[i]? = some (.int (lo + i))
  | n + 1, lo, 0, _ => by simp [vInts]
  | n + 1, lo, i + 1, h => by
    show (vInts (lo + 1) n)[i]? = _
    rw [vInts_get n (lo + 1) i (by omega)]
    congr 2
    omega
theorem vInts_reps {K : PySem.W.Frag} {F : Hp} : ∀ (n : Nat) (lo : Int), Reps K F (vInts lo n) (intsFrom lo n)
  | 0, _ => .nil
  | n + 1, lo => .cons (.int lo) (vInts_reps n (lo + 1))
theorem itok_r {F : Hp} {lo : Int} {n : Nat} : ItOk (Itr lo n) F (vInts lo n) := fun H i s => by
  rw [vInts_len]
  exact ⟨fun hi => ⟨hi, fun x H' y => ⟨y.1, by rw [vInts_get n lo i hi, y.2]⟩⟩, fun hi => hi⟩
theorem si_seq {e : PySem.Expr} {g : Sl → Out} (h : SE c sc asg e g) : SI c sc asg e fun σ => (g σ).bind fun x => seqOf x.1 := fun tg => by
  obtain ⟨t, a1, a2⟩ := h
  refine ⟨iSeq c.K t, fun X x => by rw [← x.K]; exact pi_seq (a1 X x), fun σp xs e => ?_⟩
  cases e1 : g σp with
  | none => simp [e1] at e
  | some p =>
    obtain ⟨x, o⟩ := p
    simp only [e1, Option.bind_some] at e
    intro F H σ s vr R q
    refine (a2 σp x o e1).s F H σ s vr _ fun v F1 H1 g1 r1 => ?_
    unfold seqOf at e
    split at e
    · split at e
      · cases e
        obtain ⟨p, vs, rfl, h1, r1⟩ := r1.ofLst
        exact ⟨p, rfl, .inl ⟨⟨vs, Same.sqL g1.in_ h1⟩, q _ vs F1 H1 g1 r1 (itok_l h1)⟩⟩
      · cases e
    · split at e
      · cases e
        obtain ⟨p, vs, rfl, h1, r1⟩ := r1.ofTup
        exact ⟨p, rfl, .inr ⟨⟨vs, Same.sqT g1.in_ h1⟩, q _ vs F1 H1 g1 r1 (itok_t h1)⟩⟩
      · cases e
    · cases e
theorem small62_of {i : Int} (h : small62 i = true) : -(2 ^ 62) ≤ i ∧ i < 2 ^ 62 := by
  unfold small62 at h
  rw [Bool.and_eq_true] at h
  exact ⟨of_decide_eq_true h.1, of_decide_eq_true h.2⟩
theorem si_range1 {a : PySem.Expr} {fp pos : Pos} {g : Sl → Out} (ok : TabOk c T) (hg : glB sc "range" = true) (h : SE c sc asg a g) (h0 : ∀ e p, a = .Starred e p → ∀ σ, g σ = none) :
    SI c sc asg (.Call (.Name "range" fp) [a] [] pos) fun σ => (g σ).bind fun x => (match x.1 with | .int j => if small62 j && decide (j.toNat ≤ big) then some (intsFrom 0 j.toNat) else none | _ => none) := fun tg => by
  obtain ⟨t, a1, a2⟩ := h
  by_cases hs : ∃ e p, a = .Starred e p
  · refine ⟨tiF, fun _ _ => pi_F, fun σp xs e => ?_⟩
    obtain ⟨e', p, q⟩ := hs
    simp [h0 e' p q] at e
  · have hs' : ∀ e p, a ≠ .Starred e p := fun e p q => hs ⟨e, p, q⟩
    refine ⟨iRng1 (tCons t tNil), fun X x => pi_range1 (gl_of (by rw [x.sc]; exact hg)) (by rw [x.mg]; exact ok.blt _ (by decide +kernel)) (pa_cons (a1 X x) pa_nil (star_of hs')) (star_of hs'), fun σp xs e => ?_⟩
    cases e1 : g σp with
    | none => simp [e1] at e
    | some p =>
      obtain ⟨x, o⟩ := p
      simp only [e1, Option.bind_some] at e
      split at e
      · rename_i j
        split at e
        · rename_i hc
          rw [Bool.and_eq_true] at hc
          cases e
          intro F H σ s vr R q
          refine (a2 σp _ o e1).s F H σ s vr _ fun v F1 H1 g1 r1 => ?_
          cases r1
          obtain ⟨b1, b2⟩ := small62_of hc.1
          exact ⟨j, rfl, b1, b2, q _ _ F1 H1 g1 (vInts_reps _ _) itok_r⟩
        · cases e
      · cases e
theorem si_range2 {a b : PySem.Expr} {fp pos : Pos} {g g2 : Sl → Out} (ok : TabOk c T) (hg : glB sc "range" = true) (h : SE c sc asg a g) (h' : SE c sc asg b g2) (h0 : ∀ e p, a = .Starred e p → ∀ σ, g σ = none) (h1 : ∀ e p, b = .Starred e p → ∀ σ, g2 σ = none) :
    SI c sc asg (.Call (.Name "range" fp) [a, b] [] pos) fun σ => (g σ).bind fun x => (g2 σ).bind fun y => (match x.1, y.1 with
            | .int i, .int j => if small62 i && small62 j && decide ((j - i).toNat ≤ big) then some (intsFrom i (j - i).toNat) else none
            | _, _ => none) := fun tg => by
  obtain ⟨t, a1, a2⟩ := h
  obtain ⟨t2, b1, b2⟩ := h'
  by_cases hs : (∃ e p, a = .Starred e p) ∨ ∃ e p, b = .Starred e p
  · refine ⟨tiF, fun _ _ => pi_F, fun σp xs e => ?_⟩
    rcases hs with ⟨e', p, q⟩ | ⟨e', p, q⟩
    · simp [h0 e' p q] at e
    · cases e1 : g σp with
      | none => simp [e1] at e
      | some z =>
        simp [e1, h1 e' p q] at e
  · have hs1 : ∀ e p, a ≠ .Starred e p := fun e p q => hs (.inl ⟨e, p, q⟩)
    have hs2 : ∀ e p, b ≠ .Starred e p := fun e p q => hs (.inr ⟨e, p, q⟩)
    refine ⟨iRng2 (tCons t (tCons t2 tNil)), fun X x => pi_range2 (gl_of (by rw [x.sc]; exact hg)) (by rw [x.mg]; exact ok.blt _ (by decide +kernel)) (pa_cons (a1 X x) (pa_cons (b1 X x) pa_nil (star_of hs2)) (star_of hs1)) (by rw [star_of hs1, star_of hs2]; rfl) (star_of hs2), fun σp xs e => ?_⟩
    cases e1 : g σp with
    | none => simp [e1] at e
    | some p =>
      obtain ⟨x, o⟩ := p
      cases e2 : g2 σp with
      | none => simp [e1, e2] at e
      | some p2 =>
        obtain ⟨y, o2⟩ := p2
        simp only [e1, e2, Option.bind_some] at e
        split at e
        · rename_i i j
          split at e
          · rename_i hc
            rw [Bool.and_eq_true, Bool.and_eq_true] at hc
            cases e
            intro F H σ s vr R q
            refine (a2 σp _ o e1).s F H σ s vr _ fun v F1 H1 g1 r1 => ?_
            refine (b2 σp _ o2 e2).s F1 H1 σ g1.in_ (vr.mono g1.f) _ fun v2 F2 H2 g2' r2 => ?_
            cases r1; cases r2
            obtain ⟨c1, c2⟩ := small62_of hc.1.1
            obtain ⟨c3, c4⟩ := small62_of hc.1.2
            exact ⟨i, j, rfl, ⟨c1, c2, c3, c4⟩, q _ _ F2 H2 (g1.trans g2') (vInts_reps _ _) itok_r⟩
          · cases e
        · cases e
end
end Pv

/-! Part G: targets, comprehensions, the theorem of expressions -/
namespace Pv
open PySem L2 PySem.Spec PyProof.Rows

def URel (K : PySem.W.Frag) (F : Hp) : List (Nat × V) → List (Nat × PV) → Prop := Paired fun p q => p.1 = q.1 ∧ Rep K F p.2 q.2
def appV : List (Nat × V) → L2.St → L2.St
  | [], σ => σ
  | u :: us, σ => appV us (σ.set u.1 (some u.2))
theorem appV_append : ∀ (a b : List (Nat × V)) (σ : L2.St), appV (a ++ b) σ = appV b (appV a σ)
  | [], _, _ => rfl
  | u :: a, b, σ => appV_append a b (σ.set u.1 (some u.2))
theorem appV_length : ∀ (a : List (Nat × V)) (σ : L2.St), (appV a σ).length = σ.length
  | [], _ => rfl
  | u :: a, σ => by rw [appV, appV_length a, List.length_set]
theorem URel.append {K : PySem.W.Frag} {F : Hp} : ∀ {ws ws' : List (Nat × V)} {us us' : List (Nat × PV)}, URel K F ws us → URel K F ws' us' → URel K F (ws ++ ws') (us ++ us')
  | _, _, _, _, .nil, h => h
  | _, _, _, _, .cons a r, h => .cons a (URel.append r h)
theorem URel.mono {K : PySem.W.Frag} {F F' : Hp} (s : Same F F') : ∀ {ws : List (Nat × V)} {us : List (Nat × PV)}, URel K F ws us → URel K F' ws us
  | _, _, .nil => .nil
  | _, _, .cons a r => .cons ⟨a.1, a.2.mono s⟩ (URel.mono s r)
theorem URel.ix {K : PySem.W.Frag} {F : Hp} : ∀ {ws : List (Nat × V)} {us : List (Nat × PV)}, URel K F ws us → ws.map (·.1) = us.map (·.1)
  | _, _, .nil => rfl
  | _, _, .cons a r => by simp only [List.map_cons, a.1, URel.ix r]
theorem Vrel.set {K : PySem.W.Frag} {F : Hp} {σp : Sl} {σ : L2.St} {i : Nat} {v : V} {x : PV} (h : Vrel K F σp σ) (r : Rep K F v x) : Vrel K F (σp.set i (some x)) (σ.set i (some v)) := by
  refine ⟨by rw [List.length_set, List.length_set]; exact h.1, fun j y e => ?_⟩
  by_cases hj : i = j
  · subst hj
    by_cases hl : i < σp.length
    · rw [List.getElem?_set_self hl] at e
      cases e
      exact ⟨v, List.getElem?_set_self (by rw [← h.1]; exact hl), r⟩
    · rw [List.getElem?_eq_none (by rw [List.length_set]; omega)] at e
      cases e
  · rw [List.getElem?_set_ne hj] at e ⊢
    exact h.2 j y e
theorem Vrel.app {K : PySem.W.Frag} {F : Hp} : ∀ {ws : List (Nat × V)} {us : List (Nat × PV)} {σp : Sl} {σ : L2.St}, URel K F ws us → Vrel K F σp σ → Vrel K F (app us σp) (appV ws σ)
  | _, _, _, _, .nil, h => h
  | p :: ws, q :: us, σp, σ, .cons a r, h => by
    unfold Pv.app appV
    rw [a.1]
    exact Vrel.app r (h.set a.2)

section
variable {c : Cc} {sc : Scope} {asg : Str → Bool}
/-- a target's store -/
def SG (c : Cc) (sc : Scope) (asg : Str → Bool) (tg : PySem.Expr) : Prop := ∃ g : TG, (∀ X, CxOk c sc asg X → PG X tg g) ∧ ∀ x us, updT c.N sc asg tg x = some us →
  ∀ F H v σ (Q : L2.St → Hp → Prop), Same F H → Rep c.K F v x → (∀ ws, URel c.K F ws us → Q (appV ws σ) H) → g v σ H Q
def gF : TG := fun _ _ _ _ => False
theorem pg_F {X : Cx} {e : PySem.Expr} : PG X e gF := ⟨fun _ _ _ _ _ _ _ _ _ h => h.elim⟩
def gsF : TGs := fun _ _ _ _ => False
theorem pgs_F {X : Cx} {e : List PySem.Expr} : PGs X e gsF := ⟨fun _ _ _ _ _ _ _ _ _ h => h.elim⟩
theorem assign_each {e : PySem.Expr} {es : List PySem.Expr} {env : Env} (h : ∃ x p, e = .Name x p) : (assignEach (e :: es) env).map (·.2) = assign e env :: (assignEach es env).map (·.2) ∧ assignEach (e :: es) env = (false, assign e env) :: assignEach es env := by
  obtain ⟨x, p, rfl⟩ := h
  exact ⟨rfl, rfl⟩
theorem pg_nameC {x : Str} {pos : Pos} {i : Nat} (nd : c.N.Nodup) (hi : idx c.N x = some i) (hl : locB sc x = true) (ha : asg x = true) {X : Cx} (ok : CxOk c sc asg X) : PG X (.Name x pos) (gName i) :=
  pg_name (by rw [ok.N]; exact nd) (by rw [ok.N]; exact idx_get hi) (by rw [ok.sc]; exact loc_of hl) (ok.as x ha)
theorem updN_of {x : Str} {v : PV} {us : List (Nat × PV)} (h : updN c.N sc asg x v = some us) : ∃ i, idx c.N x = some i ∧ locB sc x = true ∧ asg x = true ∧ us = [(i, v)] := by
  unfold updN at h
  cases e : idx c.N x with
  | none => simp [e] at h
  | some i =>
    simp only [e, Option.bind_some] at h
    split at h
    · rename_i hc
      rw [Bool.and_eq_true] at hc
      cases h
      exact ⟨i, rfl, hc.1, hc.2, rfl⟩
    · cases h
theorem updN_any {x : Str} {v v' : PV} {us : List (Nat × PV)} (h : updN c.N sc asg x v = some us) : ∃ us', updN c.N sc asg x v' = some us' := by
  obtain ⟨i, h1, h2, h3, rfl⟩ := updN_of h
  exact ⟨[(i, v')], by simp [updN, h1, h2, h3]⟩
/-- all the targets' names are stored -/
def nmOk (N : List Str) (sc : Scope) (asg : Str → Bool) (e : PySem.Expr) : Bool := match e with
  | .Name x _ => (idx N x).isSome && locB sc x && asg x
  | _ => false
theorem sgs (nd : c.N.Nodup) : ∀ (es : List PySem.Expr), ∃ g : TGs, (∀ X, CxOk c sc asg X → PGs X es g) ∧ ∀ xs us, updNs c.N sc asg es xs = some us →
    (es.all (fun e => nmOk c.N sc asg e) = true ∧ xs.length = es.length) ∧
    ∀ F H vs σ (Q : L2.St → Hp → Prop), Same F H → Reps c.K F vs xs → (∀ ws, URel c.K F ws us → Q (appV ws σ) H) → g vs σ H Q
  | [] => ⟨gNil, fun _ _ => pgs_nil, fun xs us h => by
      cases xs with
      | nil =>
        simp only [updNs] at h
        cases h
        exact ⟨⟨rfl, rfl⟩, fun F H vs σ Q s r q => by cases r; exact ⟨rfl, q [] .nil⟩⟩
      | cons _ _ => simp only [updNs] at h; cases h⟩
  | e :: es => by
    obtain ⟨g, h1, h2⟩ := sgs nd es
    by_cases hn : nmOk c.N sc asg e = true
    · cases e with
      | Name x p =>
        have hn' := hn
        unfold nmOk at hn'
        simp only [Bool.and_eq_true, Option.isSome_iff_exists] at hn'
        obtain ⟨⟨⟨i, hi⟩, hl⟩, ha⟩ := hn'
        refine ⟨gCons (gName i) g, fun X ok => pgs_cons (pg_nameC nd hi hl ha ok) (h1 X ok) (assign_each ⟨x, p, rfl⟩).1, fun xs us h => ?_⟩
        cases xs with
        | nil => simp only [updNs] at h; cases h
        | cons y ys =>
          simp only [updNs] at h
          cases e1 : updN c.N sc asg x y with
          | none => simp [e1] at h
          | some u =>
            cases e2 : updNs c.N sc asg es ys with
            | none => simp [e1, e2] at h
            | some us' =>
              simp only [e1, e2, Option.bind_some, Option.map_some] at h
              cases h
              obtain ⟨⟨a1, a2⟩, a3⟩ := h2 ys us' e2
              obtain ⟨j, b1, _, _, rfl⟩ := updN_of e1
              rw [hi] at b1
              cases b1
              refine ⟨⟨by rw [List.all_cons, hn, a1]; rfl, by rw [List.length_cons, a2]; rfl⟩, fun F H vs σ Q s r q => ?_⟩
              cases r with
              | cons r1 r2 =>
                refine ⟨_, _, rfl, ?_⟩
                refine a3 F H _ _ _ s r2 fun ws w => ?_
                exact q ((i, _) :: ws) (.cons ⟨rfl, r1⟩ w)
      | _ => cases hn
    · refine ⟨gsF, fun _ _ => pgs_F, fun xs us h => ?_⟩
      exfalso
      cases e with
      | Name x p =>
        cases xs with
        | nil => simp only [updNs] at h; cases h
        | cons y ys =>
          simp only [updNs] at h
          cases e1 : updN c.N sc asg x y with
          | none => simp [e1] at h
          | some u =>
            obtain ⟨j, b1, b2, b3, _⟩ := updN_of e1
            exact hn (by simp [nmOk, b1, b2, b3])
      | _ => cases xs <;> (simp only [updNs] at h; cases h)
theorem each_len {env : Env} : ∀ {es : List PySem.Expr}, es.all (fun e => nmOk c.N sc asg e) = true → (assignEach es env).length = es.length ∧ (assignEach es env).findIdx? (·.1) = none
  | [], _ => ⟨rfl, rfl⟩
  | e :: es, h => by
    rw [List.all_cons, Bool.and_eq_true] at h
    obtain ⟨h1, h2⟩ := each_len (env := env) h.2
    cases e with
    | Name x p =>
      rw [(assign_each (env := env) ⟨x, p, rfl⟩).2]
      refine ⟨by rw [List.length_cons, h1]; rfl, ?_⟩
      rw [List.findIdx?_cons, h2]
      rfl
    | _ => cases h.1
theorem sg (nd : c.N.Nodup) (tg : PySem.Expr) : SG c sc asg tg := by
  cases tg with
  | Name x pos =>
    by_cases hn : nmOk c.N sc asg (.Name x pos) = true
    · have hn' := hn
      unfold nmOk at hn'
      simp only [Bool.and_eq_true, Option.isSome_iff_exists] at hn'
      obtain ⟨⟨⟨i, hi⟩, hl⟩, ha⟩ := hn'
      refine ⟨gName i, fun X ok => pg_nameC nd hi hl ha ok, fun y us h F H v σ Q s r q => ?_⟩
      have h := updT_old h; simp only [updT0] at h
      obtain ⟨j, b1, _, _, rfl⟩ := updN_of h
      rw [hi] at b1
      cases b1
      exact q [(i, v)] (.cons ⟨rfl, r⟩ .nil)
    · refine ⟨gF, fun _ _ => pg_F, fun y us h => ?_⟩
      have h := updT_old h; simp only [updT0] at h
      obtain ⟨j, b1, b2, b3, _⟩ := updN_of h
      exact absurd (by simp [nmOk, b1, b2, b3]) hn
  | Tuple es k pos =>
    obtain ⟨g, h1, h2⟩ := sgs (sc := sc) (asg := asg) nd es
    by_cases ha : es.all (fun e => nmOk c.N sc asg e) = true
    · refine ⟨gTup c.K es.length g, fun X ok => by rw [← ok.K]; exact pg_tup ok.calm (h1 X ok) (each_len ha).1 (each_len ha).2, fun x us h F H v σ Q s r q => ?_⟩
      cases x with
      | tup xs =>
        have h := updT_old h; simp only [updT0] at h
        obtain ⟨⟨_, a2⟩, a3⟩ := h2 xs us h
        obtain ⟨a, vs, rfl, b1, b2⟩ := r.ofTup
        exact ⟨a, vs, rfl, Same.sqT s b1, by rw [b2.length]; exact a2, a3 F H vs σ Q s b2 q⟩
      | _ => have h := updT_old h; simp only [updT0] at h; cases h
    · refine ⟨gF, fun _ _ => pg_F, fun x us h => ?_⟩
      cases x with
      | tup xs =>
        have h := updT_old h; simp only [updT0] at h
        exact absurd (h2 xs us h).1.1 ha
      | _ => have h := updT_old h; simp only [updT0] at h; cases h
  | _ => exact ⟨gF, fun _ _ => pg_F, fun x us h => by cases x <;> (have h := updT_old h; simp only [updT0] at h; cases h)⟩
end
end Pv

/-! Part H: list comprehensions -/
namespace Pv
open PySem L2 PySem.Spec PyProof.Rows

theorem wipe_get {σ : L2.St} {j : Nat} : ∀ {vs : List Nat}, (wipe σ vs)[j]? = if j ∈ vs then (if j < σ.length then some none else none) else σ[j]?
  | [] => by simp [wipe]
  | v :: vs => by
    unfold wipe
    by_cases hv : v = j
    · subst hv
      simp only [List.mem_cons, true_or, if_true]
      by_cases hl : v < σ.length
      · rw [List.getElem?_set_self (by rw [wipe_length]; exact hl), if_pos hl]
      · rw [List.getElem?_eq_none (by rw [List.length_set, wipe_length]; omega), if_neg hl]
    · rw [List.getElem?_set_ne hv, wipe_get]
      have : (j ∈ v :: vs) = (j ∈ vs) := by simp [show ¬ j = v from fun e => hv e.symm]
      simp only [this]
theorem wipe_wipe {σ : L2.St} {vs : List Nat} : wipe (wipe σ vs) vs = wipe σ vs := by
  apply List.ext_getElem?
  intro j
  rw [wipe_get, wipe_get, wipe_length]
  split <;> rfl
theorem appV_out {j : Nat} : ∀ {ws : List (Nat × V)} {σ : L2.St}, j ∉ ws.map (·.1) → (appV ws σ)[j]? = σ[j]?
  | [], _, _ => rfl
  | u :: ws, σ, h => by
    simp only [List.map_cons, List.mem_cons, not_or] at h
    unfold appV
    rw [appV_out h.2, List.getElem?_set_ne (fun e => h.1 e.symm)]
theorem wipe_app {ws : List (Nat × V)} {σ : L2.St} {vs : List Nat} (h : ∀ j ∈ ws.map (·.1), j ∈ vs) : wipe (appV ws (wipe σ vs)) vs = wipe σ vs := by
  apply List.ext_getElem?
  intro j
  rw [wipe_get, wipe_get, appV_length, wipe_length]
  by_cases hj : j ∈ vs
  · rw [if_pos hj, if_pos hj]
  · rw [if_neg hj, if_neg hj, appV_out (fun z => hj (h j z)), wipe_get, if_neg hj]
theorem Vrel.wipe {K : PySem.W.Frag} {F : Hp} {σp : Sl} {σ : L2.St} (h : Vrel K F σp σ) : ∀ (vs : List Nat), Vrel K F (wipeP σp vs) (wipe σ vs)
  | [] => h
  | v :: vs => by
    have ih := Vrel.wipe h vs
    unfold wipeP L2.wipe
    refine ⟨by rw [List.length_set, List.length_set]; exact ih.1, fun j y e => ?_⟩
    by_cases hj : v = j
    · subst hj
      by_cases hl : v < (wipeP σp vs).length
      · rw [List.getElem?_set_self hl] at e; cases e
      · rw [List.getElem?_eq_none (by rw [List.length_set]; omega)] at e; cases e
    · rw [List.getElem?_set_ne hj] at e ⊢
      exact ih.2 j y e

section
variable {c : Cc} {sc : Scope} {asg : Str → Bool} {T : Tb}
theorem updNs_ix {P : Nat → Prop} (hP : ∀ x i, idx c.N x = some i → asg x = true → P i) : ∀ {es : List PySem.Expr} {xs : List PV} {us : List (Nat × PV)}, updNs c.N sc asg es xs = some us → ∀ j ∈ us.map (·.1), P j
  | [], [], us, h => by simp only [updNs] at h; cases h; intro j hj; cases hj
  | [], _ :: _, us, h => by simp only [updNs] at h; cases h
  | e :: es, xs, us, h => by
    cases e with
    | Name x p =>
      cases xs with
      | nil => simp only [updNs] at h; cases h
      | cons y ys =>
        simp only [updNs] at h
        cases e1 : updN c.N sc asg x y with
        | none => simp [e1] at h
        | some u =>
          cases e2 : updNs c.N sc asg es ys with
          | none => simp [e1, e2] at h
          | some us' =>
            simp only [e1, e2, Option.bind_some, Option.map_some] at h
            cases h
            obtain ⟨i, b1, _, b3, rfl⟩ := updN_of e1
            intro j hj
            simp only [List.cons_append, List.nil_append, List.map_cons, List.mem_cons] at hj
            rcases hj with rfl | hj
            · exact hP x _ b1 b3
            · exact updNs_ix hP e2 j hj
    | _ => cases xs <;> (simp only [updNs] at h; cases h)
theorem updT_ix {P : Nat → Prop} (hP : ∀ x i, idx c.N x = some i → asg x = true → P i) {tg : PySem.Expr} {x : PV} {us : List (Nat × PV)} (h : updT c.N sc asg tg x = some us) : ∀ j ∈ us.map (·.1), P j := by
  have h := updT_old h
  unfold updT0 at h
  split at h
  · obtain ⟨i, b1, _, b3, rfl⟩ := updN_of h
    intro j hj
    simp only [List.map_cons, List.map_nil, List.mem_singleton] at hj
    subst hj
    exact hP _ _ b1 b3
  · exact updNs_ix hP h
  · cases h
theorem own_mem {N : List Str} {scope : Scope} {x : Str} {i : Nat} (h1 : idx N x = some i) (h2 : asgOf scope x = true) : i ∈ (ownOf N scope).map (·.2) := by
  unfold asgOf locB at h2
  refine List.mem_map.mpr ⟨(x, i), ?_, rfl⟩
  unfold ownOf
  split at h2
  · rename_i e
    exact List.mem_filterMap.mpr ⟨(x, .local), PySem.mem_of_lookup e, by simp [h1]⟩
  · rename_i e
    exact List.mem_filterMap.mpr ⟨(x, .cell), PySem.mem_of_lookup e, by simp [h1]⟩
  · cases h2
theorem blk_ok {scope : Scope} {X : Cx} (ok : CxOk c sc asg X) (s : Shared) (H : Hp) (C : Addr) (cl : List (Str × Addr)) (fp : List Addr) : CxOk c (relS scope sc) (asgOf scope) (X.blk s H scope (compEnvC scope cl C X.env) fp) := by
  refine ⟨ok.P, ok.w, ok.K, ok.mg, ok.base, ok.N, ?_, ok.rm, ok.calm, fun x h => ?_⟩
  · rw [← ok.sc]; rfl
  · unfold asgOf locB at h
    split at h
    · rename_i e
      right
      show (relS scope X.env.scope).names.lookup x = some .local
      exact lookup_relS_keep (by decide) e
    · rename_i e
      left
      show (scope.names.lookup x == some NameKind.cell) = true
      rw [e]
      rfl
    · cases h

/-- a comprehension as a value, and given to a name -/
def SEL (c : Cc) (sc : Scope) (asg : Str → Bool) (elt : PySem.Expr) (gens : List Comprehension) (scope : Scope) (pos : Pos) (f : Sl → Out) : Prop := ∃ t, (∀ X, CxOk c sc asg X → PE X (.ListComp elt gens scope pos) t ∧
    ∀ i y py spos, X.N[i]? = some y → X.env.scope.names.lookup y = some .local → swapsWith (.ListComp elt gens scope pos) (some (.Name y py)) spos.line X.env = pure true → PS X (.Assign [.Name y py] (.ListComp elt gens scope pos) spos) (tAsg t (gName i))) ∧
  ∀ σp x own, f σp = some (x, own) → EvE c.K t σp x own
theorem SEL.se {elt : PySem.Expr} {gens : List Comprehension} {scope : Scope} {pos : Pos} {f : Sl → Out} (h : SEL c sc asg elt gens scope pos f) : SE c sc asg (.ListComp elt gens scope pos) f :=
  let ⟨t, a, b⟩ := h; ⟨t, fun X x => (a X x).1, b⟩
theorem SEL.none {elt : PySem.Expr} {gens : List Comprehension} {scope : Scope} {pos : Pos} : SEL c sc asg elt gens scope pos fun _ => none :=
  ⟨tF, fun _ _ => ⟨pe_F, fun _ _ _ _ _ _ _ => ⟨fun _ _ _ _ _ _ h => h.elim⟩⟩, fun _ _ _ h => nomatch h⟩
theorem SEL.congr {elt : PySem.Expr} {gens : List Comprehension} {scope : Scope} {pos : Pos} {f g : Sl → Out} (h : SEL c sc asg elt gens scope pos f) (q : ∀ σ, g σ = f σ) : SEL c sc asg elt gens scope pos g :=
  let ⟨t, a, b⟩ := h; ⟨t, a, fun σp x own e => b σp x own (by rw [← q]; exact e)⟩
theorem se_lc {elt tg iter : PySem.Expr} {ifs : List PySem.Expr} {scope : Scope} {pos : Pos} {gi : Sl → Option (List PV)} {gt : Sl → Option Bool} {ge : Sl → Out} (nd : c.N.Nodup) (hb : blkC c.N sc scope (ownOf c.N scope) = true)
    (hs : ∀ env x, foldedSetIterable iter env x = pure x) (hi : SI c sc asg iter gi) (hl : ∀ σp xs, gi σp = some xs → xs.length ≤ big)
    (ht : ∃ tt, (∀ X, CxOk c (relS scope sc) (asgOf scope) X → PTs X ifs tt) ∧ ∀ σp b, gt σp = some b → EvT c.K tt σp b) (he : SE c (relS scope sc) (asgOf scope) elt ge) :
    SEL c sc asg elt [⟨tg, iter, ifs, 0⟩] scope pos fun σ => (gi σ).bind fun items =>
      (compL (fun x => (updT c.N (relS scope sc) (asgOf scope) tg x).map fun us => app us (wipeP σ ((ownOf c.N scope).map (·.2)))) gt ge items).bind fun ys => some (.lst ys, true) := by
  obtain ⟨wi, i1, i2⟩ := hi tg
  obtain ⟨tt, t1, t2⟩ := ht
  obtain ⟨te, e1, e2⟩ := he
  obtain ⟨g, g1, g2⟩ := sg (c := c) (sc := relS scope sc) (asg := asgOf scope) nd tg
  refine ⟨tLc wi g tt te ((ownOf c.N scope).map (·.2)), fun X ok => ?_, fun σp y own h => ?_⟩
  · exact ⟨pe_lc ok.calm (by rw [ok.N]; exact nd) (i1 X ok) (blkOk_by (by rw [ok.N, ok.sc]; exact hb)) (fun s H C cl fp => g1 _ (blk_ok ok s H C cl fp)) (fun s H C cl fp => t1 _ (blk_ok ok s H C cl fp)) (fun s H C cl fp => e1 _ (blk_ok ok s H C cl fp)) (hs _),
      fun i y py spos hy hl hw => ps_setLc ok.calm (by rw [ok.N]; exact nd) hy hl hw (i1 X ok) (blkOk_by (by rw [ok.N, ok.sc]; exact hb)) (fun s H C cl fp => g1 _ (blk_ok ok s H C cl fp)) (fun s H C cl fp => t1 _ (blk_ok ok s H C cl fp)) (fun s H C cl fp => e1 _ (blk_ok ok s H C cl fp)) (hs _)⟩
  · cases q1 : gi σp with
    | none => simp [q1] at h
    | some items =>
      simp only [q1, Option.bind_some] at h
      generalize hvs : (ownOf c.N scope).map (·.2) = vs at h
      generalize hbf : (fun x => (updT c.N (relS scope sc) (asgOf scope) tg x).map fun us => app us (wipeP σp vs)) = bf at h
      cases q2 : compL bf gt ge items with
      | none => simp [q2] at h
      | some ys =>
        simp only [q2, Option.bind_some] at h
        cases h
        intro F H σ s vr Q q
        refine i2 σp items q1 F H σ s vr _ fun J us F1 H1 gr1 r1 it => ?_
        intro D hD
        have hF1D : F1 D = none := gr1.in_.free hD
        refine ⟨fun i m Hc => m = us.length - i ∧ i ≤ us.length ∧ ∃ Fc acc ys1 ys2, Grow F1 H1 Fc Hc ∧ Hc D = some (.lst acc) ∧ Fc D = none ∧ Reps c.K Fc acc ys1 ∧ compL bf gt ge (items.drop i) = some ys2 ∧ ys1 ++ ys2 = ys ∧ ys1.length ≤ i, ?_, ?_⟩
        · exact ⟨us.length, by simp, Nat.zero_le _, F1, [], [], ys, Grow.own gr1.in_ hD, upd_same, hF1D, .nil, q2, rfl, Nat.le_refl _⟩
        · rintro i m Hc ⟨rfl, hi, Fc, acc, ys1, ys2, gc, hcD, hfD, rc, qc, hys, hlen⟩
          obtain ⟨it1, it2⟩ := it Hc i (gc.f.trans gc.in_)
          by_cases hlt : i < us.length
          · refine .inr ⟨(it1 hlt).1, fun Hn => ∃ m', m' < us.length - i ∧ m' = us.length - (i + 1) ∧ i + 1 ≤ us.length ∧ ∃ Fc acc ys1 ys2, Grow F1 H1 Fc Hn ∧ Hn D = some (.lst acc) ∧ Fc D = none ∧ Reps c.K Fc acc ys1 ∧ compL bf gt ge (items.drop (i + 1)) = some ys2 ∧ ys1 ++ ys2 = ys ∧ ys1.length ≤ i + 1,
              fun H' h' => ?_, fun x H' hy => ?_⟩
            · obtain ⟨m', h1, h2, h3, h4⟩ := h'
              exact ⟨m', h1, h2, h3, h4⟩
            · obtain ⟨rfl, hx⟩ := (it1 hlt).2 x H' hy
              obtain ⟨xi, hxi, rx⟩ := r1.getV hx
              have hd : items.drop i = xi :: items.drop (i + 1) := by
                obtain ⟨hl, e⟩ := List.getElem?_eq_some_iff.mp hxi
                rw [List.drop_eq_getElem_cons hl, e]
              rw [hd] at qc
              simp only [compL] at qc
              cases w1 : bf xi with
              | none => simp [w1] at qc
              | some σ1 =>
                simp only [w1, Option.bind_some] at qc
                cases w2 : gt σ1 with
                | none => simp [w2] at qc
                | some k =>
                  simp only [w2, Option.bind_some] at qc
                  have w1' := w1
                  rw [← hbf] at w1'
                  simp only at w1'
                  cases w3 : updT c.N (relS scope sc) (asgOf scope) tg xi with
                  | none => simp [w3] at w1'
                  | some uu =>
                    simp only [w3, Option.map_some, Option.some.injEq] at w1'
                    subst w1'
                    have lenI : (us.length - (i + 1)) < us.length - i := by omega
                    refine g2 xi uu w3 Fc H' x _ _ gc.in_ (rx.mono gc.f) fun ws hw => ?_
                    refine ⟨wipe_app fun j hj => ?_, ?_⟩
                    · rw [hw.ix] at hj
                      rw [← hvs]
                      exact updT_ix (c := c) (P := fun j => j ∈ (ownOf c.N scope).map (·.2)) (fun x i a b => own_mem a b) w3 j hj
                    · have vr1 : Vrel c.K Fc (app uu (wipeP σp vs)) (appV ws (L2.wipe σ vs)) := Vrel.app hw (((vr.mono gr1.f).mono gc.f).wipe vs)
                      refine t2 _ k w2 Fc H' _ gc.in_ vr1 _ fun F3 H3 g3 => ?_
                      have h3D : H3 D = some (.lst acc) := g3.h _ _ hcD
                      have f3D : F3 D = none := g3.new D (by rw [hcD]; simp) hfD
                      cases k with
                      | false =>
                        rw [if_neg Bool.false_ne_true] at qc ⊢
                        exact ⟨_, lenI, rfl, hlt, F3, acc, ys1, ys2, gc.trans g3, h3D, f3D, rc.mono g3.f, qc, hys, Nat.le_succ_of_le hlen⟩
                      | true =>
                        rw [if_pos rfl] at qc ⊢
                        cases w4 : ge (app uu (wipeP σp vs)) with
                        | none => simp [w4] at qc
                        | some p =>
                          obtain ⟨yv, yo⟩ := p
                          simp only [w4, Option.bind_some] at qc
                          cases w5 : compL bf gt ge (items.drop (i + 1)) with
                          | none => simp [w5] at qc
                          | some ys3 =>
                            simp only [w5, Option.map_some, Option.some.injEq] at qc
                            subst qc
                            refine (e2 _ yv yo w4).s F3 H3 _ g3.in_ (vr1.mono g3.f) _ fun v F4 H4 g4 r4 => ?_
                            have h4D : H4 D = some (.lst acc) := g4.h _ _ h3D
                            have f4D : F4 D = none := g4.new D (by rw [h3D]; simp) f3D
                            have gg := (gc.trans g3).trans g4
                            refine ⟨acc, h4D, ?_, _, lenI, rfl, hlt, F4, acc ++ [v], ys1 ++ [yv], ys3, ⟨gg.f, ?_, ?_, gg.new⟩, upd_same, f4D, ((rc.mono g3.f).mono g4.f).append (.cons r4 .nil), (by first | exact w5 | rfl), by rw [← hys]; simp, by rw [List.length_append]; simp; exact hlen⟩
                            · have a1 := rc.length
                              have a2 := r1.length
                              have a3 := hl _ _ q1
                              have a4 := big_line
                              omega
                            · intro b o e
                              rw [upd_ne (ne_of_none e hD)]
                              exact gg.h b o e
                            · intro b o e
                              rw [upd_ne (ne_of_none e f4D)]
                              exact gg.in_ b o e
          · have e : i = us.length := by omega
            subst e
            refine .inl ⟨it2 (Nat.le_refl _), ?_⟩
            have hd : items.drop us.length = [] := by rw [r1.length]; exact List.drop_length ..
            rw [hd] at qc
            simp only [compL] at qc
            cases qc
            rw [List.append_nil] at hys
            subst hys
            exact q _ Fc Hc (gr1.trans gc) (.mine (gr1.h.free hD) hfD hcD rc)
end
end Pv

/-! Part I: all expressions -/
namespace Pv
open PySem L2 PySem.Spec PyProof.Rows

section
variable {c : Cc} {T : Tb}
theorem SE.congr {sc : Scope} {asg : Str → Bool} {e : PySem.Expr} {f g : Sl → Out} (h : SE c sc asg e f) (q : ∀ σ, g σ = f σ) : SE c sc asg e g :=
  let ⟨t, a, b⟩ := h; ⟨t, a, fun σp x own e => b σp x own (by rw [← q]; exact e)⟩
theorem ST.congr {sc : Scope} {asg : Str → Bool} {e : PySem.Expr} {f g : Sl → Option Bool} (h : ST c sc asg e f) (q : ∀ σ, g σ = f σ) : ST c sc asg e g :=
  let ⟨t, a, b⟩ := h; ⟨t, a, fun σp x e => b σp x (by rw [← q]; exact e)⟩
theorem SI.congr {sc : Scope} {asg : Str → Bool} {e : PySem.Expr} {f g : Sl → Option (List PV)} (h : SI c sc asg e f) (q : ∀ σ, g σ = f σ) : SI c sc asg e g := fun tg =>
  let ⟨t, a, b⟩ := h tg; ⟨t, a, fun σp x e => b σp x (by rw [← q]; exact e)⟩
theorem units_of {sc : Scope} {asg : Str → Bool} {X : Cx} (x : CxOk c sc asg X) : X.A.units + 64 < cLine := x.rm.units

variable {sc : Scope} {asg : Str → Bool}
theorem se_binop {a b : PySem.Expr} {op : Operator} {pos : Pos} {f g : Sl → Out} (h1 : SE c sc asg a f) (h2 : SE c sc asg b g) : SE c sc asg (.BinOp a op b pos) fun σ => (f σ).bind fun x => (g σ).bind fun y => binop op x.1 y.1 := by
  obtain ⟨t, a1, a2⟩ := h1
  obtain ⟨u, b1, b2⟩ := h2
  refine ⟨tOp (rB c.K op) t u, fun X x => pe_op (by rw [← x.K]; exact op_B op) (a1 X x) (b1 X x), fun σp z own e => ?_⟩
  cases e1 : f σp with
  | none => simp [e1] at e
  | some p =>
    cases e2 : g σp with
    | none => simp [e1, e2] at e
    | some p2 =>
      simp only [e1, e2, Option.bind_some] at e
      intro F H σ s vr Q q
      refine (a2 σp p.1 p.2 e1).s F H σ s vr _ fun v F1 H1 g1 r1 => ?_
      refine (b2 σp p2.1 p2.2 e2).s F1 H1 σ g1.in_ (vr.mono g1.f) _ fun w F2 H2 g2 r2 => ?_
      exact binop_ok e g2.in_ (r1.mono g2.f) r2 fun w' F' H' g3 r3 => q w' F' H' ((g1.trans g2).trans g3) (r3.mono (g1.h.trans g2.h))
theorem se_neg {a : PySem.Expr} {pos : Pos} {f : Sl → Out} (h1 : SE c sc asg a f) : SE c sc asg (.UnaryOp .USub a pos) fun σ => (f σ).bind fun x => (match x.1 with | .int i => sh (.int (-i)) | _ => none) := by
  obtain ⟨t, a1, a2⟩ := h1
  refine ⟨tUn (rU fun i => .int (-i)) t, fun X x => pe_un un_neg (a1 X x), fun σp z own e => ?_⟩
  cases e1 : f σp with
  | none => simp [e1] at e
  | some p =>
    obtain ⟨x, o⟩ := p
    simp only [e1, Option.bind_some] at e
    split at e
    · cases e
      refine EvS.e fun F H σ s vr Q q => ?_
      refine (a2 σp _ o e1).s F H σ s vr _ fun v F1 H1 g1 r1 => ?_
      cases r1
      exact ⟨_, rfl, q _ F1 H1 g1 (.int _)⟩
    · cases e
theorem se_not {a : PySem.Expr} {pos : Pos} {f : Sl → Out} (h1 : SE c sc asg a f) : SE c sc asg (.UnaryOp .Not a pos) fun σ => (f σ).bind fun x => (match x.1 with | .bl c => sh (.bl (!c)) | _ => none) := by
  obtain ⟨t, a1, a2⟩ := h1
  refine ⟨tNotV t, fun X x => pe_not (a1 X x), fun σp z own e => ?_⟩
  cases e1 : f σp with
  | none => simp [e1] at e
  | some p =>
    obtain ⟨x, o⟩ := p
    simp only [e1, Option.bind_some] at e
    split at e
    · cases e
      refine EvS.e fun F H σ s vr Q q => ?_
      refine (a2 σp _ o e1).s F H σ s vr _ fun v F1 H1 g1 r1 => ?_
      cases r1
      exact ⟨_, rfl, q _ F1 H1 g1 (.bl _)⟩
    · cases e
theorem se_boolV {op : BoolOp} {pos : Pos} {f : Sl → PySem.Expr → Out} : ∀ {es : List PySem.Expr}, (∀ e ∈ es, SE c sc asg e fun σ => f σ e) → SE c sc asg (.BoolOp op es pos) fun σ => boolV (f σ) op es
  | [], _ => SE.none.congr fun _ => rfl
  | [e], h => by
    obtain ⟨t, a1, a2⟩ := h e (List.mem_cons_self ..)
    exact ⟨t, fun X x => pe_one (a1 X x), fun σp z own q => a2 σp z own q⟩
  | e :: e' :: es, h => by
    obtain ⟨t, a1, a2⟩ := h e (List.mem_cons_self ..)
    obtain ⟨u, b1, b2⟩ := se_boolV (op := op) (pos := pos) (f := f) (es := e' :: es) fun e he => h e (List.mem_cons_of_mem _ he)
    cases op with
    | And =>
      refine ⟨tAndV t u, fun X x => pe_and (a1 X x) (b1 X x), fun σp z own q => ?_⟩
      simp only [boolV] at q
      cases e1 : f σp e with
      | none => simp [e1] at q
      | some p =>
        obtain ⟨x, o⟩ := p
        simp only [e1, Option.bind_some] at q
        cases x with
        | bl k =>
          simp only [blOf, Option.bind_some] at q
          intro F H σ s vr Q qq
          refine (a2 σp _ o e1).s F H σ s vr _ fun v F1 H1 g1 r1 => ?_
          cases r1
          refine ⟨k, rfl, ?_⟩
          cases k with
          | true =>
            simp only [if_true] at q
            exact b2 σp z own q F1 H1 σ g1.in_ (vr.mono g1.f) Q fun v F' H' g2 r2 => qq v F' H' (g1.trans g2) (r2.mono g1.h)
          | false =>
            simp only [Bool.false_eq_true, if_false] at q
            cases q
            exact qq _ F1 H1 g1 (.of (.bl _))
        | _ => simp [blOf] at q
    | Or =>
      refine ⟨tOrV t u, fun X x => pe_or (a1 X x) (b1 X x), fun σp z own q => ?_⟩
      simp only [boolV] at q
      cases e1 : f σp e with
      | none => simp [e1] at q
      | some p =>
        obtain ⟨x, o⟩ := p
        simp only [e1, Option.bind_some] at q
        cases x with
        | bl k =>
          simp only [blOf, Option.bind_some] at q
          intro F H σ s vr Q qq
          refine (a2 σp _ o e1).s F H σ s vr _ fun v F1 H1 g1 r1 => ?_
          cases r1
          refine ⟨k, rfl, ?_⟩
          cases k with
          | false =>
            simp only [Bool.false_eq_true, if_false] at q
            exact b2 σp z own q F1 H1 σ g1.in_ (vr.mono g1.f) Q fun v F' H' g2 r2 => qq v F' H' (g1.trans g2) (r2.mono g1.h)
          | true =>
            simp only [if_true] at q
            cases q
            exact qq _ F1 H1 g1 (.of (.bl _))
        | _ => simp [blOf] at q
theorem se_cmp {a b : PySem.Expr} {op : CmpOp} {pos : Pos} {f g : Sl → Out} (h1 : SE c sc asg a f) (h2 : SE c sc asg b g) : SE c sc asg (.Compare a [op] [b] pos) fun σ => if behindInMarks op b then none else (f σ).bind fun x => (g σ).bind fun y => (cmp op x.1 y.1).bind fun k => sh (.bl k) := by
  by_cases hm : behindInMarks op b = true
  · simp only [hm, if_true]
    exact SE.none
  · have hm' : behindInMarks op b = false := by simpa using hm
    simp only [hm']
    obtain ⟨t, a1, a2⟩ := h1
    obtain ⟨u, b1, b2⟩ := h2
    refine ⟨tOp (rC c.K op) t u, fun X x => pe_cmpR (by rw [← x.K]; exact op_C (units_of x) op) (a1 X x) (b1 X x) hm', fun σp z own e => ?_⟩
    cases e1 : f σp with
    | none => simp [e1] at e
    | some p =>
      cases e2 : g σp with
      | none => simp [e1, e2] at e
      | some p2 =>
        cases e3 : cmp op p.1 p2.1 with
        | none => simp [e1, e2, e3] at e
        | some k =>
          simp [e1, e2, e3] at e
          cases e
          refine EvS.e fun F H σ s vr Q q => ?_
          refine (a2 σp p.1 p.2 e1).s F H σ s vr _ fun v F1 H1 g1 r1 => ?_
          refine (b2 σp p2.1 p2.2 e2).s F1 H1 σ g1.in_ (vr.mono g1.f) _ fun w F2 H2 g2 r2 => ?_
          exact cmp_ok e3 g2.in_ (r1.mono g2.f) r2 (q _ F2 H2 (g1.trans g2) (.bl k))
theorem st_cmp {a b : PySem.Expr} {op : CmpOp} {pos : Pos} {f g : Sl → Out} (h1 : SE c sc asg a f) (h2 : SE c sc asg b g) : ST c sc asg (.Compare a [op] [b] pos) fun σ => if behindInMarks op b then none else (f σ).bind fun x => (g σ).bind fun y => cmp op x.1 y.1 := by
  by_cases hm : behindInMarks op b = true
  · simp only [hm, if_true]
    exact ST.none
  · have hm' : behindInMarks op b = false := by simpa using hm
    simp only [hm']
    obtain ⟨t, a1, a2⟩ := h1
    obtain ⟨u, b1, b2⟩ := h2
    refine ⟨tTest (tOp (rC c.K op) t u), fun X x => pt_cmpR (by rw [← x.K]; exact op_C (units_of x) op) (a1 X x) (b1 X x) hm', fun σp k e => ?_⟩
    cases e1 : f σp with
    | none => simp [e1] at e
    | some p =>
      cases e2 : g σp with
      | none => simp [e1, e2] at e
      | some p2 =>
        simp [e1, e2] at e
        intro F H σ s vr Q q
        refine (a2 σp p.1 p.2 e1).s F H σ s vr _ fun v F1 H1 g1 r1 => ?_
        refine (b2 σp p2.1 p2.2 e2).s F1 H1 σ g1.in_ (vr.mono g1.f) _ fun w F2 H2 g2 r2 => ?_
        exact cmp_ok e g2.in_ (r1.mono g2.f) r2 ⟨k, rfl, q F2 H2 (g1.trans g2)⟩
theorem se_if {k a b : PySem.Expr} {pos : Pos} {f : Sl → Option Bool} {g g' : Sl → Out} (h0 : ST c sc asg k f) (h1 : SE c sc asg a g) (h2 : SE c sc asg b g') : SE c sc asg (.IfExp k a b pos) fun σ => (f σ).bind fun k => if k then g σ else g' σ := by
  obtain ⟨t, a1, a2⟩ := h0
  obtain ⟨u, b1, b2⟩ := h1
  obtain ⟨w, c1, c2⟩ := h2
  refine ⟨tIf t u w, fun X x => pe_ifExp (a1 X x) (b1 X x) (c1 X x), fun σp z own e => ?_⟩
  cases e1 : f σp with
  | none => simp [e1] at e
  | some p =>
    simp only [e1, Option.bind_some] at e
    intro F H σ s vr Q q
    refine a2 σp p e1 F H σ s vr _ fun F1 H1 g1 => ?_
    cases p with
    | true =>
      rw [if_pos rfl] at e ⊢
      exact b2 σp z own e F1 H1 σ g1.in_ (vr.mono g1.f) Q fun v F' H' g2 r2 => q v F' H' (g1.trans g2) (r2.mono g1.h)
    | false =>
      rw [if_neg Bool.false_ne_true] at e ⊢
      exact c2 σp z own e F1 H1 σ g1.in_ (vr.mono g1.f) Q fun v F' H' g2 r2 => q v F' H' (g1.trans g2) (r2.mono g1.h)
theorem se_ix {a b : PySem.Expr} {pos : Pos} {f g : Sl → Out} (hp : PlainIx b) (h1 : SE c sc asg a f) (h2 : SE c sc asg b g) : SE c sc asg (.Subscript a b pos) fun σ => (f σ).bind fun x => (g σ).bind fun y => getIx x.1 y.1 := by
  obtain ⟨t, a1, a2⟩ := h1
  obtain ⟨u, b1, b2⟩ := h2
  refine ⟨tOp (rIx c.K) t u, fun X x => pe_ix (by rw [← x.K]; exact ix_seq) (a1 X x) (b1 X x) hp, fun σp z own e => ?_⟩
  cases e1 : f σp with
  | none => simp [e1] at e
  | some p =>
    cases e2 : g σp with
    | none => simp [e1, e2] at e
    | some p2 =>
      simp only [e1, e2, Option.bind_some] at e
      intro F H σ s vr Q q
      refine (a2 σp p.1 p.2 e1).s F H σ s vr _ fun v F1 H1 g1 r1 => ?_
      refine (b2 σp p2.1 p2.2 e2).s F1 H1 σ g1.in_ (vr.mono g1.f) _ fun w F2 H2 g2 r2 => ?_
      have ho : own = false := (getIx_ok (Q := fun _ _ => True) e g2.in_ (r1.mono g2.f) r2 fun _ _ => trivial).2
      subst ho
      exact (getIx_ok e g2.in_ (r1.mono g2.f) r2 fun w' r3 => q w' F2 H2 (g1.trans g2) (.of r3)).1
theorem se_sl {a : PySem.Expr} {lo hi : Option PySem.Expr} {pos p2 : Pos} {f : Sl → Out} {l h : Sl → Option (Option Int)} (h1 : SE c sc asg a f) (h2 : SO c sc asg lo l) (h3 : SO c sc asg hi h) :
    SE c sc asg (.Subscript a (.Slice lo hi none p2) pos) fun σ => (f σ).bind fun x => (l σ).bind fun l => (h σ).bind fun h => getSl x.1 l h := by
  obtain ⟨t, a1, a2⟩ := h1
  obtain ⟨u, b1, b2⟩ := h2
  obtain ⟨w, c1, c2⟩ := h3
  refine ⟨tSl (rSl c.K) t u w, fun X x => pe_slice (by rw [← x.K]; exact sl_seq) (a1 X x) (b1 X x) (c1 X x), fun σp z own e => ?_⟩
  cases e1 : f σp with
  | none => simp [e1] at e
  | some p =>
    cases e2 : l σp with
    | none => simp [e1, e2] at e
    | some o1 =>
      cases e3 : h σp with
      | none => simp [e1, e2, e3] at e
      | some o2 =>
        simp only [e1, e2, e3, Option.bind_some] at e
        intro F H σ s vr Q q
        refine (a2 σp p.1 p.2 e1).s F H σ s vr _ fun v F1 H1 g1 r1 => ?_
        refine b2 σp o1 e2 F1 H1 σ g1.in_ (vr.mono g1.f) _ fun F2 H2 g2 => ?_
        refine c2 σp o2 e3 F2 H2 σ g2.in_ ((vr.mono g1.f).mono g2.f) _ fun F3 H3 g3 => ?_
        exact getSl_ok e g3.in_ ((r1.mono g2.f).mono g3.f) fun w' F' H' g4 r4 => q w' F' H' (((g1.trans g2).trans g3).trans g4) (r4.mono ((g1.h.trans g2.h).trans g3.h))
theorem st_boolT {op : BoolOp} {pos : Pos} {f : Sl → PySem.Expr → Option Bool} : ∀ {es : List PySem.Expr}, (∀ e ∈ es, ST c sc asg e fun σ => f σ e) → ∃ t, (∀ X, CxOk c sc asg X → PW X (.BoolOp op es pos) t) ∧ ∀ σp b, boolT (f σp) op es = some b → EvT c.K t σp b
  | [], _ => ⟨ttF, fun _ _ => pw_F, fun σp b h => by simp only [boolT] at h; cases h⟩
  | [e], h => by
    obtain ⟨t, a1, a2⟩ := h e (List.mem_cons_self ..)
    cases op with
    | And => exact ⟨t, fun X x => pw_and1 (a1 X x), fun σp b q => a2 σp b q⟩
    | Or => exact ⟨t, fun X x => pw_or1 (a1 X x), fun σp b q => a2 σp b q⟩
  | e :: e' :: es, h => by
    obtain ⟨t, a1, a2⟩ := h e (List.mem_cons_self ..)
    obtain ⟨u, b1, b2⟩ := st_boolT (op := op) (pos := pos) (f := f) (es := e' :: es) fun e he => h e (List.mem_cons_of_mem _ he)
    cases op with
    | And =>
      refine ⟨tAnd t u, fun X x => pw_and (a1 X x) (b1 X x), fun σp b q => ?_⟩
      simp only [boolT] at q
      cases e1 : f σp e with
      | none => simp [e1] at q
      | some k =>
        simp only [e1, Option.bind_some] at q
        intro F H σ s vr Q qq
        refine a2 σp k e1 F H σ s vr _ fun F1 H1 g1 => ?_
        cases k with
        | true =>
          simp only [if_true] at q
          exact b2 σp b q F1 H1 σ g1.in_ (vr.mono g1.f) Q fun F' H' g2 => qq F' H' (g1.trans g2)
        | false =>
          simp only [Bool.false_eq_true, if_false] at q
          cases q
          exact qq F1 H1 g1
    | Or =>
      refine ⟨tOr t u, fun X x => pw_or (a1 X x) (b1 X x), fun σp b q => ?_⟩
      simp only [boolT] at q
      cases e1 : f σp e with
      | none => simp [e1] at q
      | some k =>
        simp only [e1, Option.bind_some] at q
        intro F H σ s vr Q qq
        refine a2 σp k e1 F H σ s vr _ fun F1 H1 g1 => ?_
        cases k with
        | false =>
          simp only [Bool.false_eq_true, if_false] at q
          exact b2 σp b q F1 H1 σ g1.in_ (vr.mono g1.f) Q fun F' H' g2 => qq F' H' (g1.trans g2)
        | true =>
          simp only [if_true] at q
          cases q
          exact qq F1 H1 g1
theorem st_not {a : PySem.Expr} {pos : Pos} {f : Sl → Option Bool} (h1 : ST c sc asg a f) : ST c sc asg (.UnaryOp .Not a pos) fun σ => (f σ).map (!·) := by
  obtain ⟨t, a1, a2⟩ := h1
  refine ⟨tNot t, fun X x => pt_not (a1 X x), fun σp b e => ?_⟩
  cases e1 : f σp with
  | none => simp [e1] at e
  | some k =>
    simp only [e1, Option.map_some] at e
    cases e
    intro F H σ s vr Q q
    exact a2 σp k e1 F H σ s vr _ fun F1 H1 g1 => q F1 H1 g1
theorem st_truth {a : PySem.Expr} {f : Sl → Out} (h1 : SE c sc asg a f) (he : ∀ env whole, isTrue a env whole = (do let v ← whole; standAt a.pos; holding [v] (truthy v))) : ST c sc asg a fun σ => (f σ).bind fun x => truth x.1 := by
  obtain ⟨t, a1, a2⟩ := h1
  refine ⟨fun σ H Q => t σ H fun x H' => ∃ k, TruV c.K x H' k ∧ Q k H', fun X x => by rw [← x.K]; exact pt_truth (a1 X x) (he _), fun σp b e => ?_⟩
  cases e1 : f σp with
  | none => simp [e1] at e
  | some p =>
    simp only [e1, Option.bind_some] at e
    intro F H σ s vr Q q
    refine (a2 σp p.1 p.2 e1).s F H σ s vr _ fun v F1 H1 g1 r1 => ?_
    exact ⟨b, truth_ok e g1.in_ r1, q F1 H1 g1⟩
theorem so_none : SO c sc asg none fun _ => some none := ⟨tNoPart, fun _ _ => po_none, fun σp o e => by
  cases e
  exact fun F H σ s vr Q q => q F H (Grow.refl s)⟩
theorem so_some {a : PySem.Expr} {f : Sl → Out} (h1 : SE c sc asg a f) : SO c sc asg (some a) fun σ => (f σ).bind fun x => (match x.1 with | .int i => some (some i) | _ => none) := by
  obtain ⟨t, a1, a2⟩ := h1
  refine ⟨tPart t, fun X x => po_some (a1 X x), fun σp b e => ?_⟩
  cases e1 : f σp with
  | none => simp [e1] at e
  | some p =>
    obtain ⟨x, o⟩ := p
    simp only [e1, Option.bind_some] at e
    split at e
    · cases e
      intro F H σ s vr Q q
      refine (a2 σp _ o e1).s F H σ s vr _ fun v F1 H1 g1 r1 => ?_
      cases r1
      exact ⟨_, rfl, q F1 H1 g1⟩
    · cases e
theorem seqOf_len {x : PV} {xs : List PV} (h : seqOf x = some xs) : xs.length ≤ big := by
  unfold seqOf at h
  split at h
  · split at h
    · cases h; assumption
    · cases h
  · split at h
    · cases h; assumption
    · cases h
  · cases h
theorem intsFrom_len : ∀ (n : Nat) (lo : Int), (intsFrom lo n).length = n
  | 0, _ => rfl
  | n + 1, lo => by show (intsFrom (lo + 1) n).length + 1 = n + 1; rw [intsFrom_len]
theorem evI_len {n : Nat} {e : PySem.Expr} {σp : Sl} {xs : List PV} (h : evI T c.N n sc σp e = some xs) : xs.length ≤ big := by
  cases n with
  | zero => simp only [evI] at h; cases h
  | succ n =>
    unfold evI at h
    split at h
    · cases h
    · split at h
      · split at h
        · split at h
          · obtain ⟨p, _, h⟩ := Option.bind_eq_some_iff.mp h
            (first | unfold rng1 at h | unfold rng2 at h); split at h
            · split at h
              · rename_i hc
                rw [Bool.and_eq_true, decide_eq_true_eq] at hc
                cases h
                rw [intsFrom_len]
                exact hc.2
              · cases h
            · cases h
          · obtain ⟨p, _, h⟩ := Option.bind_eq_some_iff.mp h
            obtain ⟨p2, _, h⟩ := Option.bind_eq_some_iff.mp h
            (first | unfold rng1 at h | unfold rng2 at h); split at h
            · split at h
              · rename_i hc
                rw [Bool.and_eq_true, decide_eq_true_eq] at hc
                cases h
                rw [intsFrom_len]
                exact hc.2
              · cases h
            · cases h
          · cases h
        · cases h
      · obtain ⟨p, _, h⟩ := Option.bind_eq_some_iff.mp h
        exact seqOf_len h
    · obtain ⟨p, _, h⟩ := Option.bind_eq_some_iff.mp h
      exact seqOf_len h
end
end Pv

/-! Part J: all expressions, together -/
namespace Pv
open PySem L2 PySem.Spec PyProof.Rows

section
variable {c : Cc} {T : Tb}
theorem starred_none {n : Nat} {sc : Scope} {e : PySem.Expr} {p : Pos} : ∀ σ, evE T c.N n sc σ (.Starred e p) = none := fun σ => by
  cases n <;> rfl
theorem evE_star {n : Nat} {sc : Scope} {a : PySem.Expr} : ∀ e p, a = .Starred e p → ∀ σ, evE T c.N n sc σ a = none := fun e p q σ => by
  subst q; exact starred_none σ
theorem args_len {n : Nat} {sc : Scope} {es : List PySem.Expr} : ∀ σp xs, evEs (evE T c.N n sc σp) es = some xs → xs.length = es.length ∧ starB es = false := fun σp xs h => ⟨evEs_length h, starB_ev h⟩
structure Sound (c : Cc) (T : Tb) (n : Nat) : Prop where
  e : ∀ sc asg e, SE c sc asg e fun σ => evE T c.N n sc σ e
  t : ∀ sc asg e, ST c sc asg e fun σ => evT T c.N n sc σ e
  o : ∀ sc asg e, SO c sc asg e fun σ => evO T c.N n sc σ e
  i : ∀ sc asg e, SI c sc asg e fun σ => evI T c.N n sc σ e
theorem sound_call {n : Nat} (ih : Sound c T n) (ok : TabOk c T) (sc : Scope) (asg : Str → Bool) (fn : PySem.Expr) (args : List PySem.Expr) (kws : List Keyword) (pos : Pos) : SE c sc asg (.Call fn args kws pos) fun σ => evE T c.N (n + 1) sc σ (.Call fn args kws pos) := by
  have IA : ∀ es, SA c sc asg es fun σ => evEs (evE T c.N n sc σ) es := fun es => sa_of (f := fun σ e => evE T c.N n sc σ e) fun e _ => ih.e sc asg e
  cases fn with
  | Name f fp =>
    cases kws with
    | nil =>
      by_cases h0 : (okNm f && glB sc f) = true
      · have h0' := h0
        rw [Bool.and_eq_true] at h0'
        cases hd : T.dfl f args.length with
        | some ds =>
          refine (se_call (fp := fp) (pos := pos) ok h0'.1 h0'.2 hd (IA args) args_len).congr fun σ => ?_
          simp only [evE, h0, if_true, hd]
        | none =>
          by_cases hb : isBlt f = true
          · by_cases hi : f = "isinstance"
            · subst hi
              cases args with
              | nil => exact SE.none.congr fun σ => by simp only [evE, h0, if_true, hd, hb]
              | cons a args =>
                cases args with
                | nil => exact SE.none.congr fun σ => by simp only [evE, h0, if_true, hd, hb]
                | cons b args =>
                  cases args with
                  | cons _ _ => exact SE.none.congr fun σ => by simp only [evE, h0, if_true, hd, hb]
                  | nil =>
                    cases b with
                    | Name t tp =>
                      by_cases ht : glB sc t = true
                      · cases hy : tyNames.lookup t with
                        | none => exact SE.none.congr fun σ => by simp only [evE, h0, if_true, hd, hb, ht, hy, Option.bind_none]
                        | some ty =>
                          refine (se_isi (fp := fp) (tp := tp) (pos := pos) ok h0'.2 ht hy (ih.e sc asg a) evE_star).congr fun σ => ?_
                          simp only [evE, h0, if_true, hd, hb, ht, hy, Option.bind_some]
                      · exact SE.none.congr fun σ => by simp only [evE, h0, if_true, hd, hb, ht]; rfl
                    | _ => exact SE.none.congr fun σ => by simp only [evE, h0, if_true, hd, hb]
            · cases args with
              | nil => exact SE.none.congr fun σ => by simp only [evE, h0, if_true, hd, hb, hi, if_false]
              | cons a args =>
                refine (se_blt (fp := fp) (pos := pos) ok hb h0'.2 (IA (a :: args)) fun σp xs h => starB_ev h).congr fun σ => ?_
                simp only [evE, h0, if_true, hd, hb, hi, if_false]
          · exact SE.none.congr fun σ => by simp only [evE, h0, if_true, hd, hb]; rfl
      · exact SE.none.congr fun σ => by simp only [evE, h0]; rfl
    | cons k kws =>
      cases kws with
      | cons _ _ => exact SE.none.congr fun σ => by obtain ⟨o, v, kp⟩ := k; cases o <;> rfl
      | nil =>
        obtain ⟨o, v, kp⟩ := k
        cases o with
        | none => exact SE.none.congr fun σ => by rfl
        | some k =>
          by_cases h0 : (okNm f && glB sc f && T.kwd f args.length [k]) = true
          · have h0' := h0
            rw [Bool.and_eq_true, Bool.and_eq_true] at h0'
            cases args with
            | nil => exact SE.none.congr fun σ => by simp only [evE, h0, if_true]
            | cons a args =>
              refine (se_callK (fp := fp) (pos := pos) (kp := kp) ok h0'.1.1 h0'.1.2 h0'.2 (IA (a :: args)) (ih.e sc asg v) args_len).congr fun σ => ?_
              simp only [evE, h0, if_true]
          · exact SE.none.congr fun σ => by simp only [evE, h0]; rfl
  | _ => exact SE.none.congr fun σ => by rfl
theorem SE.sh2 {sc : Scope} {asg : Str → Bool} {e : PySem.Expr} {f g : Sl → Out} {h : PV → PV → Out} (q : SE c sc asg e fun σ => (f σ).bind fun x => (g σ).bind fun y => h x.1 y.1) : SE c sc asg e fun σ => (f σ).bind fun x => (g σ).bind fun y => (h x.1 y.1).bind fun z => sh z.1 :=
  q.map fun σ x own e => by
    obtain ⟨a, e1, e⟩ := Option.bind_eq_some_iff.mp e
    obtain ⟨b, e2, e⟩ := Option.bind_eq_some_iff.mp e
    obtain ⟨z, e3, e⟩ := Option.bind_eq_some_iff.mp e
    cases e
    exact ⟨z.2, by rw [e1, e2]; exact e3, fun h => by cases h⟩
theorem SE.sh3 {sc : Scope} {asg : Str → Bool} {e : PySem.Expr} {f : Sl → Out} {g k : Sl → Option (Option Int)} {h : PV → Option Int → Option Int → Out} (q : SE c sc asg e fun σ => (f σ).bind fun x => (g σ).bind fun y => (k σ).bind fun w => h x.1 y w) : SE c sc asg e fun σ => (f σ).bind fun x => (g σ).bind fun y => (k σ).bind fun w => (h x.1 y w).bind fun z => sh z.1 :=
  q.map fun σ x own e => by
    obtain ⟨a, e1, e⟩ := Option.bind_eq_some_iff.mp e
    obtain ⟨b, e2, e⟩ := Option.bind_eq_some_iff.mp e
    obtain ⟨b', e2', e⟩ := Option.bind_eq_some_iff.mp e
    obtain ⟨z, e3, e⟩ := Option.bind_eq_some_iff.mp e
    cases e
    exact ⟨z.2, by rw [e1, e2, e2']; exact e3, fun h => by cases h⟩
theorem fold_of {e : PySem.Expr} (h : ∀ a b p, e ≠ .Set a b p) : ∀ env x, foldedSetIterable e env x = pure x := fun env x => by
  cases e <;> first | rfl | exact absurd rfl (h _ _ _)
theorem sound_lc {n : Nat} (ih : Sound c T n) (ok : TabOk c T) (sc : Scope) (asg : Str → Bool) (elt : PySem.Expr) (gens : List Comprehension) (scope : Scope) (pos : Pos) : SEL c sc asg elt gens scope pos fun σ => evE T c.N (n + 1) sc σ (.ListComp elt gens scope pos) := by
  cases gens with
  | nil => exact SEL.none.congr fun σ => by rfl
  | cons g gens =>
    obtain ⟨tg, it, ifs, z⟩ := g
    cases gens with
    | cons _ _ => exact SEL.none.congr fun σ => by unfold evE; split <;> first | rfl | (rename_i h; simp at h)
    | nil =>
      by_cases hz : z = 0
      · subst hz
        by_cases hb : blkC c.N sc scope (ownOf c.N scope) = true
        · by_cases hs : ∃ a b p, it = .Set a b p
          · obtain ⟨a, b, p, rfl⟩ := hs
            refine SEL.none.congr fun σ => ?_
            have : evI T c.N n sc σ (.Set a b p) = none := by cases n <;> rfl
            simp only [evE, hb, this, Option.bind_none]
            rfl
          · have ht : ∃ tt, (∀ X, CxOk c (relS scope sc) (asgOf scope) X → PTs X ifs tt) ∧ ∀ σp b, ifsB (evT T c.N n (relS scope sc) σp) ifs = some b → EvT c.K tt σp b := by
              cases ifs with
              | nil => exact ⟨tYes, fun _ _ => pts_nil, fun σp b h => by simp only [ifsB] at h; cases h; exact fun F H σ s vr Q q => q F H (Grow.refl s)⟩
              | cons k ks =>
                cases ks with
                | nil =>
                  obtain ⟨t, a1, a2⟩ := ih.t (relS scope sc) (asgOf scope) k
                  exact ⟨t, fun X x => pts_one (a1 X x), fun σp b h => a2 σp b h⟩
                | cons _ _ => exact ⟨ttF, fun _ _ => ⟨fun _ _ _ _ _ _ h => h.elim⟩, fun σp b h => by simp only [ifsB] at h; cases h⟩
            refine (se_lc (pos := pos) (tg := tg) ok.nd hb (fold_of fun a b p q => hs ⟨a, b, p, q⟩) (ih.i sc asg it) (fun σp xs h => evI_len h) ht (ih.e (relS scope sc) (asgOf scope) elt)).congr fun σ => ?_
            have hc := fun items => compM_eq (b := fun x => (updT c.N (relS scope sc) (asgOf scope) tg x).map fun us => app us (wipeP σ ((ownOf c.N scope).map (·.2)))) (t := fun σp => ifsB (evT T c.N n (relS scope sc) σp) ifs) (e := fun σ => evE T c.N n (relS scope sc) σ elt)
              (step := fun x => updTK c.N (relS scope sc) (asgOf scope) tg x fun us =>
                (ifsB (evT T c.N n (relS scope sc) (app us (wipeP σ ((ownOf c.N scope).map (·.2))))) ifs).bind fun c1 =>
                  if c1 then (evE T c.N n (relS scope sc) (app us (wipeP σ ((ownOf c.N scope).map (·.2)))) elt).bind fun y => some (some y.1) else some none) (fun x => by rw [updTK_eq]; cases updT c.N (relS scope sc) (asgOf scope) tg x <;> rfl) items
            simp only [evE, hb]
            simp only [hc]
            rfl
        · refine SEL.none.congr fun σ => ?_
          simp only [evE, hb]
          rfl
      · refine SEL.none.congr fun σ => ?_
        simp only [evE, hz]
        rfl
theorem sound_e {n : Nat} (ih : Sound c T n) (ok : TabOk c T) (sc : Scope) (asg : Str → Bool) (e : PySem.Expr) : SE c sc asg e fun σ => evE T c.N (n + 1) sc σ e := by
  have IA : ∀ es, SA c sc asg es fun σ => evEs (evE T c.N n sc σ) es := fun es => sa_of (f := fun σ e => evE T c.N n sc σ e) fun e _ => ih.e sc asg e
  cases e with
  | Constant k j pos =>
    cases k with
    | none => exact (se_const (fun X => pe_non) fun F => .non).congr fun σ => by first | (simp only [evE]; done) | (simp only [evE]; rfl)
    | bool b => exact (se_const (fun X => pe_bl) fun F => .bl b).congr fun σ => by first | (simp only [evE]; done) | (simp only [evE]; rfl)
    | int i => exact (se_const (fun X => pe_int) fun F => .int i).congr fun σ => by first | (simp only [evE]; done) | (simp only [evE]; rfl)
    | str s => exact (se_const (fun X => pe_str) fun F => .str s).congr fun σ => by first | (simp only [evE]; done) | (simp only [evE]; rfl)
    | _ => exact SE.none.congr fun σ => by rfl
  | Name x pos => exact (se_name (T := T) ok.con).congr fun σ => by first | (simp only [evE]; done) | (simp only [evE]; rfl)
  | Tuple es k pos => exact (se_tup (IA es) fun σp xs h => evEs_length h).congr fun σ => by first | (simp only [evE]; done) | (simp only [evE]; rfl)
  | List es pos => exact (se_lst (IA es) fun σp xs h => evEs_length h).congr fun σ => by first | (simp only [evE]; done) | (simp only [evE]; rfl)
  | BinOp a op b pos => exact (se_binop (ih.e sc asg a) (ih.e sc asg b)).sh2.congr fun σ => by first | (simp only [evE]; done) | (simp only [evE]; rfl)
  | UnaryOp op a pos =>
    cases op with
    | USub => exact (se_neg (ih.e sc asg a)).congr fun σ => by first | (simp only [evE]; done) | (simp only [evE]; rfl)
    | Not => exact (se_not (ih.e sc asg a)).congr fun σ => by first | (simp only [evE]; done) | (simp only [evE]; rfl)
    | _ => exact SE.none.congr fun σ => by rfl
  | BoolOp op es pos => exact (se_boolV (f := fun σ e => evE T c.N n sc σ e) fun e _ => ih.e sc asg e).congr fun σ => by first | (simp only [evE]; done) | (simp only [evE]; rfl)
  | Compare a ops bs pos =>
    cases ops with
    | nil => exact SE.none.congr fun σ => by rfl
    | cons op ops =>
      cases ops with
      | cons _ _ => exact SE.none.congr fun σ => by rfl
      | nil =>
        cases bs with
        | nil => exact SE.none.congr fun σ => by rfl
        | cons b bs =>
          cases bs with
          | cons _ _ => exact SE.none.congr fun σ => by rfl
          | nil => exact (se_cmp (ih.e sc asg a) (ih.e sc asg b)).congr fun σ => by first | (simp only [evE]; done) | (simp only [evE]; rfl)
  | IfExp k a b pos => exact (se_if (ih.t sc asg k) (ih.e sc asg a) (ih.e sc asg b)).congr fun σ => by first | (simp only [evE]; done) | (simp only [evE]; rfl)
  | Subscript a b pos =>
    cases b with
    | Slice lo hi st p2 =>
      cases st with
      | none => exact (se_sl (ih.e sc asg a) (ih.o sc asg lo) (ih.o sc asg hi)).sh3.congr fun σ => by first | (simp only [evE]; done) | (simp only [evE]; rfl)
      | some _ => exact SE.none.congr fun σ => by rfl
    | _ => exact (se_ix (fun _ _ => rfl) (ih.e sc asg a) (ih.e sc asg _)).sh2.congr fun σ => by first | (simp only [evE]; done) | (simp only [evE]; rfl)
  | Call fn args kws pos => exact sound_call ih ok sc asg fn args kws pos
  | ListComp elt gens scope pos => exact (sound_lc ih ok sc asg elt gens scope pos).se
  | _ => exact SE.none.congr fun σ => by rfl
theorem sound_t {n : Nat} (ih : Sound c T n) (sc : Scope) (asg : Str → Bool) (e : PySem.Expr) : ST c sc asg e fun σ => evT T c.N (n + 1) sc σ e := by
  cases e with
  | Compare a ops bs pos =>
    cases ops with
    | nil => exact ST.none.congr fun σ => by rfl
    | cons op ops =>
      cases ops with
      | cons _ _ => exact ST.none.congr fun σ => by rfl
      | nil =>
        cases bs with
        | nil => exact ST.none.congr fun σ => by rfl
        | cons b bs =>
          cases bs with
          | cons _ _ => exact ST.none.congr fun σ => by rfl
          | nil => exact (st_cmp (ih.e sc asg a) (ih.e sc asg b)).congr fun σ => by simp only [evT]
  | BoolOp op es pos =>
    obtain ⟨t, a1, a2⟩ := st_boolT (op := op) (pos := pos) (f := fun σ e => evT T c.N n sc σ e) fun e (_ : e ∈ es) => ih.t sc asg e
    exact ⟨t, fun X x => (a1 X x).pt, fun σp b h => a2 σp b (by simp only [evT] at h; exact h)⟩
  | UnaryOp op a pos =>
    cases op with
    | Not => exact (st_not (ih.t sc asg a)).congr fun σ => by simp only [evT]
    | _ => exact (st_truth (ih.e sc asg _) fun _ _ => rfl).congr fun σ => by rfl
  | IfExp k a b pos => exact ST.none.congr fun σ => by rfl
  | _ => exact (st_truth (ih.e sc asg _) fun _ _ => rfl).congr fun σ => by rfl
theorem sound_o {n : Nat} (ih : Sound c T n) (sc : Scope) (asg : Str → Bool) (e : Option PySem.Expr) : SO c sc asg e fun σ => evO T c.N (n + 1) sc σ e := by
  cases e with
  | none => exact so_none
  | some e => exact so_some (ih.e sc asg e)
theorem sound_i {n : Nat} (ih : Sound c T n) (ok : TabOk c T) (sc : Scope) (asg : Str → Bool) (e : PySem.Expr) : SI c sc asg e fun σ => evI T c.N (n + 1) sc σ e := by
  have D : SI c sc asg e fun σ => (evE T c.N n sc σ e).bind fun x => seqOf x.1 := si_seq (ih.e sc asg e)
  cases e with
  | Set _ _ _ => exact SI.none.congr fun σ => by rfl
  | Call fn args kws pos =>
    cases fn with
    | Name f fp =>
      cases kws with
      | cons _ _ => exact D.congr fun σ => by rfl
      | nil =>
        by_cases hf : f = "range"
        · subst hf
          by_cases hg : glB sc "range" = true
          · cases args with
            | nil => exact SI.none.congr fun σ => by simp only [evI, hg, if_true]
            | cons a args =>
              cases args with
              | nil => exact (si_range1 (fp := fp) (pos := pos) ok hg (ih.e sc asg a) evE_star).congr fun σ => by simp only [evI, hg, if_true]; rfl
              | cons b args =>
                cases args with
                | nil => exact (si_range2 (fp := fp) (pos := pos) ok hg (ih.e sc asg a) (ih.e sc asg b) evE_star evE_star).congr fun σ => by simp only [evI, hg, if_true]; rfl
                | cons _ _ => exact SI.none.congr fun σ => by simp only [evI, hg, if_true]
          · exact SI.none.congr fun σ => by simp only [evI, hg, if_true]; rfl
        · exact D.congr fun σ => by simp only [evI, hf, if_false]
    | _ => exact D.congr fun σ => by rfl
  | _ => exact D.congr fun σ => by rfl
theorem sound (ok : TabOk c T) : ∀ n, Sound c T n
  | 0 => ⟨fun _ _ _ => SE.none.congr fun σ => by simp only [evE], fun _ _ _ => ST.none.congr fun σ => by simp only [evT],
      fun _ _ _ => ⟨toF, fun _ _ => po_F, fun σp o h => by simp only [evO] at h; cases h⟩, fun _ _ _ => SI.none.congr fun σ => by simp only [evI]⟩
  | n + 1 => ⟨sound_e (sound ok n) ok, sound_t (sound ok n), sound_o (sound ok n), sound_i (sound ok n) ok⟩
theorem sound_lcn (ok : TabOk c T) : ∀ n sc asg elt gens scope pos, SEL c sc asg elt gens scope pos fun σ => evE T c.N n sc σ (.ListComp elt gens scope pos)
  | 0, _, _, _, _, _, _ => SEL.none.congr fun σ => by simp only [evE]
  | n + 1, sc, asg, elt, gens, scope, pos => sound_lc (sound ok n) ok sc asg elt gens scope pos
end
end Pv

/-! Part K: the evaluator of statements -/
namespace Pv
open PySem L2

inductive Slot where
  | emp | val (x : PV) | own (xs : List PV)
abbrev Fm := List Slot
def vis1 : Slot → Option PV
  | .val x => some x | _ => none
def thaw1 : Slot → Option PV
  | .val x => some x | .own xs => some (.lst xs) | .emp => none
def vis (σ : Fm) : Sl := σ.map vis1
def thaw (σ : Fm) : Sl := σ.map thaw1
def frz1 (b : Bool) : Slot → Slot
  | .own xs => if b then .val (.lst xs) else .own xs
  | s => s
def freezeFrom (q : Nat → Bool) : Nat → Fm → Fm
  | _, [] => []
  | i, s :: r => frz1 (q i) s :: freezeFrom q (i + 1) r
def freeze (q : Nat → Bool) (σ : Fm) : Fm := freezeFrom q 0 σ
/-- the names that occur -/
def occ : Nat → PySem.Expr → List Str
  | 0, _ => []
  | n + 1, e => match e with
    | .Name x _ => [x]
    | .BoolOp _ es _ => es.flatMap (occ n)
    | .BinOp a _ b _ => occ n a ++ occ n b
    | .UnaryOp _ a _ => occ n a
    | .IfExp a b c _ => occ n a ++ occ n b ++ occ n c
    | .Compare a _ bs _ => occ n a ++ bs.flatMap (occ n)
    | .Call f es ks _ => occ n f ++ es.flatMap (occ n) ++ ks.flatMap (fun k => occ n k.value)
    | .Attribute a _ _ => occ n a
    | .Subscript a b _ => occ n a ++ occ n b
    | .Slice a b c _ => (match a with | some a => occ n a | none => []) ++ (match b with | some b => occ n b | none => [])
    | .List es _ => es.flatMap (occ n)
    | .Tuple es _ _ => es.flatMap (occ n)
    | .ListComp e gs _ _ => occ n e ++ gs.flatMap (fun g => occ n g.iter ++ g.ifs.flatMap (occ n))
    | .GeneratorExp e gs _ _ => occ n e ++ gs.flatMap (fun g => occ n g.iter ++ g.ifs.flatMap (occ n))
    | _ => []
def frzOf (N : List Str) (e : PySem.Expr) (σ : Fm) : Fm := freeze (fun i => match N[i]? with | some x => (occ 30 e).any (· == x) | none => false) σ

def isOwn : Slot → Bool
  | .own _ => true | _ => false
/-- some list of one's own occurs -/
def ownAt (N : List Str) (σ : Fm) (e : PySem.Expr) : Bool := σ.any isOwn && (σ.zip N).any fun q => isOwn q.1 && (occ 30 e).any (· == q.2)
/-- an expression in a frame with lists of its own: with them shared for good (b), or lent -/
def evTop (b : Bool) (N : List Str) (f : Sl → PySem.Expr → Out) (σ : Fm) (e : PySem.Expr) : Option (PV × Bool × Fm) :=
  if ownAt N σ e then (if b then (f (vis (frzOf N e σ)) e).bind fun p => some (p.1, p.2, frzOf N e σ)
      else (f (thaw σ) e).bind fun p => if p.1.flat then some (p.1, false, σ) else none)
  else (f (vis σ) e).bind fun p => some (p.1, p.2, σ)
def ownT : Option (PV × Bool × Fm) → Option (List PV × Fm)
  | some (.lst xs, true, σ) => some (xs, σ)
  | _ => none
/-- its value is a list of its own, by its looks -/
def frE (T : Tb) : PySem.Expr → Bool
  | .List _ _ => true
  | .ListComp _ _ _ _ => true
  | .Call (.Name f _) _ _ _ => T.own f || f == "list"
  | _ => false
/-- what a loop lays aside, or shares -/
def clr : List (Nat × Bool) → Fm → Fm
  | [], σ => σ
  | q :: r, σ => clr r (if q.2 then freeze (fun j => j == q.1) σ else σ.set q.1 .emp)
def evTst (f : Sl → PySem.Expr → Option Bool) (σ : Fm) (e : PySem.Expr) : Option Bool := f (thaw σ) e
def evItr (N : List Str) (f : Sl → PySem.Expr → Option (List PV)) (σ : Fm) (e : PySem.Expr) : Option (List PV × Fm) :=
  if ownAt N σ e then (f (vis (frzOf N e σ)) e).bind fun xs => some (xs, frzOf N e σ)
  else (f (vis σ) e).bind fun xs => some (xs, σ)

inductive Fl where
  | nx (σ : Fm) | rt (x : PV) (own : Bool) | bk (σ : Fm) | ct (σ : Fm)
def slotOf (x : PV) (own : Bool) : Slot := if own then (match x with | .lst xs => .own xs | x => .val x) else .val x
def appF : List (Nat × PV) → Fm → Fm
  | [], σ => σ
  | u :: us, σ => appF us (σ.set u.1 (.val u.2))
def thenF (f : Fl) (k : Fm → Option Fl) : Option Fl := match f with
  | .nx σ => k σ
  | f => some f
def loopF (cl : Fm → Fm) (f : Fl) (k : Fm → Option Fl) : Option Fl := match f with
  | .nx σ => k (cl σ)
  | .ct σ => k (cl σ)
  | .bk σ => some (.nx (cl σ))
  | .rt x o => some (.rt x o)
def forL (cl : Fm → Fm) (bind : PV → Fm → Option Fm) (body : Fm → Option Fl) : List PV → Fm → Option Fl
  | [], σ => some (.nx σ)
  | x :: r, σ => (bind x σ).bind fun σ1 => (body σ1).bind fun f => loopF cl f (forL cl bind body r)
def whL (cl : Fm → Fm) (test : Fm → Option Bool) (body : Fm → Option Fl) : Nat → Fm → Option Fl
  | 0, _ => none
  | w + 1, σ => (test σ).bind fun b => if b then (body σ).bind fun f => loopF cl f (whL cl test body w) else some (.nx σ)
def exL (f : Fm → Stmt → Option Fl) : List Stmt → Fm → Option Fl
  | [], σ => some (.nx σ)
  | [s], σ => f σ s
  | s :: r, σ => (f σ s).bind fun g => thenF g (exL f r)
def storeN (N : List Str) (sc : Scope) (x : Str) (s : Slot) (σ : Fm) : Option Fm :=
  (idx N x).bind fun i => if locB sc x then some (σ.set i s) else none
/-- a, b = e1, e2 whose stores are swapped -/
def parB (sc : Scope) (ts vs : List PySem.Expr) : Option (Str × Str) := match ts, vs with
  | [.Name x px, .Name y py], [a, b] =>
    if decide (sc.names.lookup x = some .local) && decide (sc.names.lookup y = some .local) && (py.line == px.line) && !(x == y) && !(starB [a, b]) && !([a, b].all (foldedForSure 8)) && !([a, b].all (constantsAlone 8))
      then some (x, y) else none
  | _, _ => none
def isComp : PySem.Expr → Bool
  | .ListComp _ _ _ _ => true | .SetComp _ _ _ _ => true | .DictComp _ _ _ _ _ => true | _ => false
def isLC : PySem.Expr → Bool
  | .ListComp _ _ _ _ => true | _ => false
def isTup : PySem.Expr → Bool
  | .Tuple _ _ _ => true | .List _ _ => true | _ => false
def isSl : PySem.Expr → Bool
  | .Slice _ _ _ _ => true | _ => false
/-- name = [..]: does the store come within the comprehension's end -/
def swapB (sc : Scope) (x : Str) (px : Pos) (e : PySem.Expr) : Bool := match e with
  | .ListComp _ _ s p => decide (sc.names.lookup x = some .local) && (px.line == p.line) && !(s.names.any fun q => q.1 == x && (q.2 == .local || q.2 == .cell))
  | _ => false

/-- behind an if: what is laid aside -/
def clrF (l : List (Nat × Bool)) : Fl → Fl
  | .nx σ => .nx (clr l σ)
  | f => f
def exS (T : Tb) (N : List Str) (M W : Nat) (sc : Scope) : Nat → Fm → Stmt → Option Fl
  | 0, _, _ => none
  | n + 1, σ, s => match s with
    | .Pass _ => some (.nx σ)
    | .Break _ => some (.bk σ)
    | .Continue _ => some (.ct σ)
    | .Return none _ => some (.rt .non false)
    | .Return (some (.Name x p)) pos => if okNm x && visB sc x then (match idx N x with
        | some i => (match σ[i]? with
          | some (.own xs) => some (.rt (.lst xs) true)
          | some (.val v) => some (.rt v false)
          | _ => none)
        | none => none) else (evTop (T.frz pos.line pos.col) N (evE T N M sc) σ (.Name x p)).bind fun p => some (.rt p.1 p.2.1)
    | .Return (some e) pos => (evTop (T.frz pos.line pos.col) N (evE T N M sc) σ e).bind fun p => some (.rt p.1 p.2.1)
    | .Assign [.Name x px] e pos => if isComp e && !(isLC e) then none else
        if frE T e then (ownT (evTop true N (evE T N M sc) σ e)).bind fun q => (storeN N sc x (.own q.1) q.2).map .nx
        else (evTop (T.frz pos.line pos.col) N (evE T N M sc) σ e).bind fun p => (storeN N sc x (.val p.1) p.2.2).map .nx
    | .Assign [.Tuple ts _ _] (.Tuple vs _ _) pos => (parB sc ts vs).bind fun xy =>
        (match vs with
        | [a, b] => (evTop (T.frz pos.line pos.col) N (evE T N M sc) σ a).bind fun p => (evTop (T.frz pos.line pos.col) N (evE T N M sc) p.2.2 b).bind fun q =>
            (storeN N sc xy.1 (.val p.1) q.2.2).bind fun σ1 => (storeN N sc xy.2 (.val q.1) σ1).map .nx
        | _ => none)
    | .Assign [.Tuple ts k pt] e pos => if isTup e || isComp e then none else
        (evTop (T.frz pos.line pos.col) N (evE T N M sc) σ e).bind fun p => (updT N sc (fun _ => true) (.Tuple ts k pt) p.1).map fun us => .nx (appF us p.2.2)
    | .Assign [.Subscript (.Name x _) ie _] e pos => if isComp e || isSl ie || !(okNm x && visB sc x) then none else (evTop (T.frz pos.line pos.col) N (evE T N M sc) σ e).bind fun p => (idx N x).bind fun i =>
        (match p.2.2[i]? with
        | some (.own _) => (evTop (T.frz pos.line pos.col) N (evE T N M sc) p.2.2 ie).bind fun q => (match q.2.2[i]?, q.1 with
          | some (.own xs), .int k => (ixN xs.length k).map fun j => .nx (q.2.2.set i (.own (xs.set j p.1)))
          | _, _ => none)
        | _ => none)
    | .Expr (.Call (.Attribute (.Name x _) m ap) args [] cp) pos => if !(okNm x && visB sc x && (ap.endLine == cp.line)) then none else (idx N x).bind fun i =>
        (match σ[i]? with
        | some (.own _) => if m = "append" then (match args with
            | [a] => if starB [a] then none else (evTop (T.frz pos.line pos.col) N (evE T N M sc) σ a).bind fun p => (match p.2.2[i]? with
              | some (.own xs) => if xs.length < big then some (.nx (p.2.2.set i (.own (xs ++ [p.1])))) else none
              | _ => none)
            | _ => none)
          else if m = "pop" then (match args, σ[i]? with
            | [], some (.own xs) => if xs.isEmpty then none else some (.nx (σ.set i (.own xs.dropLast)))
            | _, _ => none)
          else none
        | _ => none)
    | .If c a b pos => (evTst (evT T N M sc) σ c).bind fun k => (if k then exL (exS T N M W sc n) a σ else exL (exS T N M W sc n) b σ).map (clrF (T.fgt pos.line pos.col))
    | .While c a [] pos => whL (clr (T.fgt pos.line pos.col)) (fun σ => evTst (evT T N M sc) σ c) (exL (exS T N M W sc n) a) W (clr (T.fgt pos.line pos.col) σ)
    | .For tg it a [] pos => (evItr N (evI T N M sc) σ it).bind fun p => forL (clr (T.fgt pos.line pos.col)) (fun x σ => (updT N sc (fun _ => true) tg x).map fun us => appF us σ) (exL (exS T N M W sc n) a) p.1 (clr (T.fgt pos.line pos.col) p.2)
    | _ => none
end Pv

/-! Part L: frames with lists of their own; an expression in such a frame -/
namespace Pv
open PySem L2 PySem.Spec PyProof.Rows
open Classical

structure SRel (K : PySem.W.Frag) (H0 F0 F : Hp) (ad : Nat → Addr) (σp : Fm) (σ : L2.St) (H : Hp) : Prop where
  g : Grow F0 H0 F H
  len : σp.length = σ.length
  val : ∀ (i : Nat) x, σp[i]? = some (.val x) → ∃ v, σ[i]? = some (some v) ∧ Rep K F v x
  own : ∀ (i : Nat) xs, σp[i]? = some (.own xs) → σ[i]? = some (some (.ref (ad i))) ∧ H0 (ad i) = none ∧ F (ad i) = none ∧ ∃ vs, H (ad i) = some (.lst vs) ∧ Reps K F vs xs
  inj : ∀ (i j : Nat) xs ys, σp[i]? = some (.own xs) → σp[j]? = some (.own ys) → ad i = ad j → i = j

section
variable {K : PySem.W.Frag} {H0 F0 F H F' H' : Hp} {ad : Nat → Addr} {σp : Fm} {σ : L2.St}
theorem SRel.grow (r : SRel K H0 F0 F ad σp σ H) (g : Grow F H F' H') : SRel K H0 F0 F' ad σp σ H' := by
  refine ⟨r.g.trans g, r.len, fun i x e => ?_, fun i xs e => ?_, r.inj⟩
  · obtain ⟨v, h1, h2⟩ := r.val i x e
    exact ⟨v, h1, h2.mono g.f⟩
  · obtain ⟨h1, h2, h3, vs, h4, h5⟩ := r.own i xs e
    exact ⟨h1, h2, g.new _ (by rw [h4]; simp) h3, vs, g.h _ _ h4, h5.mono g.f⟩
theorem SRel.vis (r : SRel K H0 F0 F ad σp σ H) : Vrel K F (vis σp) σ := by
  refine ⟨by unfold Pv.vis; rw [List.length_map]; exact r.len, fun i x e => ?_⟩
  unfold Pv.vis at e
  rw [List.getElem?_map] at e
  cases h : σp[i]? with
  | none => simp [h] at e
  | some s =>
    rw [h] at e
    cases s with
    | val y =>
      simp only [Option.map_some, vis1, Option.some.injEq] at e
      subst e
      exact r.val i y h
    | _ => simp [vis1] at e

/-- the heap with some of one's own lists shared -/
noncomputable def opened (q : Nat → Bool) (σp : Fm) (ad : Nat → Addr) (F H : Hp) : Hp := fun p => if ∃ i xs, σp[i]? = some (.own xs) ∧ q i = true ∧ ad i = p then H p else F p
theorem opened_in {q : Nat → Bool} {i : Nat} {xs : List PV} (h : σp[i]? = some (.own xs)) (hq : q i = true) : opened q σp ad F H (ad i) = H (ad i) := by
  unfold opened
  rw [if_pos ⟨i, xs, h, hq, rfl⟩]
theorem opened_out {q : Nat → Bool} {p : Addr} (h : ¬ ∃ i xs, σp[i]? = some (.own xs) ∧ q i = true ∧ ad i = p) : opened q σp ad F H p = F p := by
  unfold opened
  rw [if_neg h]
theorem SRel.opens (r : SRel K H0 F0 F ad σp σ H) (q : Nat → Bool) : Same F (opened q σp ad F H) ∧ Same (opened q σp ad F H) H := by
  refine ⟨fun b o e => ?_, fun b o e => ?_⟩
  · rw [opened_out]
    · exact e
    · rintro ⟨i, xs, h, _, rfl⟩
      rw [(r.own i xs h).2.2.1] at e
      cases e
  · by_cases h : ∃ i xs, σp[i]? = some (.own xs) ∧ q i = true ∧ ad i = b
    · unfold opened at e
      rw [if_pos h] at e
      exact e
    · rw [opened_out h] at e
      exact r.g.in_ b o e

theorem freezeFrom_get {q : Nat → Bool} : ∀ {σ : Fm} {k i : Nat}, (freezeFrom q k σ)[i]? = (σ[i]?).map (frz1 (q (k + i)))
  | [], k, i => by simp [freezeFrom]
  | s :: r, k, 0 => by simp [freezeFrom]
  | s :: r, k, i + 1 => by
    simp only [freezeFrom, List.getElem?_cons_succ]
    rw [freezeFrom_get]
    congr 2
    rw [show k + 1 + i = k + (i + 1) by omega]
theorem freeze_get {q : Nat → Bool} {σ : Fm} {i : Nat} : (freeze q σ)[i]? = (σ[i]?).map (frz1 (q i)) := by
  unfold freeze
  rw [freezeFrom_get, Nat.zero_add]
theorem freezeFrom_len {q : Nat → Bool} : ∀ {σ : Fm} {k : Nat}, (freezeFrom q k σ).length = σ.length
  | [], k => rfl
  | s :: r, k => by simp only [freezeFrom, List.length_cons, freezeFrom_len]
theorem freeze_own {q : Nat → Bool} {σ : Fm} {i : Nat} {xs : List PV} (h : (freeze q σ)[i]? = some (.own xs)) : σ[i]? = some (.own xs) ∧ q i = false := by
  rw [freeze_get] at h
  cases e : σ[i]? with
  | none => simp [e] at h
  | some s =>
    rw [e] at h
    cases s with
    | own ys =>
      cases hq : q i with
      | true => rw [hq] at h; simp [frz1] at h
      | false => rw [hq] at h; simp [frz1] at h; subst h; exact ⟨rfl, rfl⟩
    | _ => simp [frz1] at h
theorem SRel.freeze (r : SRel K H0 F0 F ad σp σ H) (q : Nat → Bool) : SRel K H0 F0 (opened q σp ad F H) ad (freeze q σp) σ H := by
  obtain ⟨o1, o2⟩ := r.opens q
  refine ⟨⟨r.g.f.trans o1, r.g.h, o2, fun p h1 h2 => ?_⟩, by unfold Pv.freeze; rw [freezeFrom_len]; exact r.len, fun i x e => ?_, fun i xs e => ?_, fun i j xs ys h1 h2 => r.inj i j xs ys (freeze_own h1).1 (freeze_own h2).1⟩
  · rw [opened_out]
    · exact r.g.new p h1 h2
    · rintro ⟨i, xs, h, _, rfl⟩
      exact h1 (r.own i xs h).2.1
  · rw [freeze_get] at e
    cases h : σp[i]? with
    | none => simp [h] at e
    | some s =>
      rw [h] at e
      cases s with
      | val y =>
        simp only [Option.map_some, frz1, Option.some.injEq, Slot.val.injEq] at e
        subst e
        obtain ⟨v, h1, h2⟩ := r.val i y h
        exact ⟨v, h1, h2.mono o1⟩
      | own ys =>
        cases hq : q i with
        | false => rw [hq] at e; simp [frz1] at e
        | true =>
          rw [hq] at e
          simp [frz1] at e
          subst e
          obtain ⟨h1, h2, h3, vs, h4, h5⟩ := r.own i ys h
          exact ⟨_, h1, .lst (.inl (.inl (by rw [opened_in h hq]; exact h4))) (h5.mono o1)⟩
      | emp => simp [frz1] at e
  · obtain ⟨h, hq⟩ := freeze_own e
    obtain ⟨h1, h2, h3, vs, h4, h5⟩ := r.own i xs h
    refine ⟨h1, h2, ?_, vs, h4, h5.mono o1⟩
    rw [opened_out]
    · exact h3
    · rintro ⟨j, ys, hj, hqj, ej⟩
      have := r.inj j i ys xs hj h ej
      subst this
      rw [hq] at hqj
      cases hqj

theorem SRel.emp (r : SRel K H0 F0 F ad σp σ H) (i : Nat) : SRel K H0 F0 F ad (σp.set i .emp) σ H := by
  have get : ∀ (j : Nat) s, (σp.set i .emp)[j]? = some s → s = .emp ∨ σp[j]? = some s := fun j s e => by
    by_cases hj : i = j
    · subst hj
      by_cases hl : i < σp.length
      · rw [List.getElem?_set_self hl] at e
        cases e
        exact .inl rfl
      · rw [List.getElem?_eq_none (by rw [List.length_set]; omega)] at e
        cases e
    · rw [List.getElem?_set_ne hj] at e
      exact .inr e
  refine ⟨r.g, by rw [List.length_set]; exact r.len, fun j y e => ?_, fun j xs e => ?_, fun j k xs ys e1 e2 => ?_⟩
  · rcases get j _ e with h | h
    · cases h
    · exact r.val j y h
  · rcases get j _ e with h | h
    · cases h
    · exact r.own j xs h
  · rcases get j _ e1 with h | h1
    · cases h
    · rcases get k _ e2 with h | h2
      · cases h
      · exact r.inj j k xs ys h1 h2
theorem SRel.clr : ∀ (l : List (Nat × Bool)) {F : Hp} {σp : Fm}, SRel K H0 F0 F ad σp σ H → ∃ F', SRel K H0 F0 F' ad (Pv.clr l σp) σ H
  | [], F, σp, r => ⟨F, r⟩
  | q :: l, F, σp, r => by
    unfold Pv.clr
    by_cases hq : q.2 = true
    · rw [if_pos hq]
      exact SRel.clr l (r.freeze _)
    · rw [if_neg hq]
      exact SRel.clr l (r.emp q.1)
/-- all of one's own lists lent -/
theorem SRel.thaw (r : SRel K H0 F0 F ad σp σ H) : Vrel K (opened (fun _ => true) σp ad F H) (thaw σp) σ := by
  obtain ⟨o1, o2⟩ := r.opens fun _ => true
  refine ⟨by unfold Pv.thaw; rw [List.length_map]; exact r.len, fun i x e => ?_⟩
  unfold Pv.thaw at e
  rw [List.getElem?_map] at e
  cases h : σp[i]? with
  | none => simp [h] at e
  | some s =>
    rw [h] at e
    cases s with
    | val y =>
      simp only [Option.map_some, thaw1, Option.some.injEq] at e
      subst e
      obtain ⟨v, h1, h2⟩ := r.val i y h
      exact ⟨v, h1, h2.mono o1⟩
    | own ys =>
      simp only [Option.map_some, thaw1, Option.some.injEq] at e
      subst e
      obtain ⟨h1, h2, h3, vs, h4, h5⟩ := r.own i ys h
      exact ⟨_, h1, .lst (.inl (.inl (by rw [opened_in h rfl]; exact h4))) (h5.mono o1)⟩
    | emp => simp [thaw1] at e
/-- given back: what is flat stays -/
theorem SRel.back {FB' : Hp} (r : SRel K H0 F0 F ad σp σ H) (g : Grow (opened (fun _ => true) σp ad F H) H FB' H') :
    ∃ F', Grow F H F' H' ∧ ∀ v x, x.flat = true → Rep K FB' v x → Rep K F' v x := by
  obtain ⟨o1, o2⟩ := r.opens fun _ => true
  have own : ∀ p, (∃ i xs, σp[i]? = some (.own xs) ∧ (fun _ : Nat => true) i = true ∧ ad i = p) → F p = none ∧ ∃ vs, H p = some (.lst vs) := by
    rintro p ⟨i, xs, h, _, rfl⟩
    obtain ⟨_, _, h3, vs, h4, _⟩ := r.own i xs h
    exact ⟨h3, vs, h4⟩
  refine ⟨fun p => if ∃ i xs, σp[i]? = some (.own xs) ∧ (fun _ : Nat => true) i = true ∧ ad i = p then none else FB' p, ⟨fun b o e => ?_, g.h, fun b o e => ?_, fun p h1 h2 => ?_⟩, fun v x f rx => ?_⟩
  · have hn : ¬ ∃ i xs, σp[i]? = some (.own xs) ∧ (fun _ : Nat => true) i = true ∧ ad i = b := fun z => by rw [(own b z).1] at e; cases e
    show (if _ then _ else _) = _
    rw [if_neg hn]
    exact g.f _ _ (o1 _ _ e)
  · have e : (if ∃ i xs, σp[i]? = some (.own xs) ∧ (fun _ : Nat => true) i = true ∧ ad i = b then none else FB' b) = some o := e
    split at e
    · cases e
    · exact g.in_ _ _ e
  · show (if _ then _ else _) = _
    split
    · rfl
    · rename_i hn
      refine g.new p h1 ?_
      rw [opened_out hn]
      exact h2
  · refine rx.tups (fun a vs h => ?_) f
    have hn : ¬ ∃ i xs, σp[i]? = some (.own xs) ∧ (fun _ : Nat => true) i = true ∧ ad i = a := fun z => by
      obtain ⟨_, us, hu⟩ := own a z
      have hu' := g.h _ _ hu
      rcases h with h | ⟨o, h⟩ <;>
      · have := g.in_ _ _ h
        rw [hu'] at this
        cases this
    rcases h with h | ⟨o, h⟩
    · left
      show (if _ then _ else _) = _
      rw [if_neg hn]
      exact h
    · refine .inr ⟨o, ?_⟩
      show (if _ then _ else _) = _
      rw [if_neg hn]
      exact h
end

section
variable {c : Cc} {sc : Scope} {asg : Str → Bool}
/-- an expression in a frame -/
def EvF (c : Cc) (t : TE) (σp : Fm) (x : PV) (o : Bool) (σp' : Fm) : Prop := (∀ (i : Nat) xs, σp'[i]? = some (.own xs) → σp[i]? = some (.own xs)) ∧ ∀ H0 F0 F ad σ H, SRel c.K H0 F0 F ad σp σ H → ∀ Q : VK,
  (∀ v F' H', SRel c.K H0 F0 F' ad σp' σ H' → Same H H' → Res c.K H F' H' v x o → Q v H') → t σ H Q
theorem frz_flat {x : PV} {o : Bool} {H F' H' : Hp} {v : V} {K : PySem.W.Frag} (f : x.flat = true) (r : Res K H F' H' v x o) : o = false := by
  cases o with
  | false => rfl
  | true =>
    unfold Res at r
    rw [if_pos rfl] at r
    obtain ⟨_, _, _, rfl, _⟩ := r
    unfold PV.flat at f
    cases f
theorem top_ok {b0 : Bool} {e : PySem.Expr} {f : Sl → PySem.Expr → Out} {t : TE} (h : ∀ σp x own, f σp e = some (x, own) → EvE c.K t σp x own) {σp σp' : Fm} {x : PV} {o : Bool} (q : evTop b0 c.N f σp e = some (x, o, σp')) : EvF c t σp x o σp' := by
  unfold evTop at q
  split at q
  · split at q
    · obtain ⟨p2, e2, q⟩ := Option.bind_eq_some_iff.mp q
      cases q
      refine ⟨fun _ _ h => (freeze_own h).1, fun H0 F0 F ad σ H r Q k => ?_⟩
      have r2 := r.freeze (fun i => match c.N[i]? with | some x => (occ 30 e).any (· == x) | none => false)
      exact h _ _ _ e2 _ H σ r2.g.in_ r2.vis Q fun v F' H' g res => k v F' H' (r2.grow g) g.h res
    · obtain ⟨p, e1, q⟩ := Option.bind_eq_some_iff.mp q
      split at q
      · rename_i hf
        cases q
        refine ⟨fun _ _ h => h, fun H0 F0 F ad σ H r Q k => ?_⟩
        obtain ⟨o1, o2⟩ := r.opens fun _ => true
        refine (h _ p.1 p.2 e1).s _ H σ o2 r.thaw Q fun v FB H' g rx => ?_
        obtain ⟨F', g', back⟩ := r.back g
        exact k v F' H' (r.grow g') g'.h (.of (back v _ hf rx))
      · cases q
  · obtain ⟨p, e1, q⟩ := Option.bind_eq_some_iff.mp q
    cases q
    refine ⟨fun _ _ h => h, fun H0 F0 F ad σ H r Q k => ?_⟩
    exact h _ _ _ e1 F H σ r.g.in_ r.vis Q fun v F' H' g res => k v F' H' (r.grow g) g.h res
/-- its value shared -/
theorem EvF.s {t : TE} {σp σp' : Fm} {x : PV} {o : Bool} (h : EvF c t σp x o σp') : ∀ H0 F0 F ad σ H, SRel c.K H0 F0 F ad σp σ H → ∀ Q : VK, (∀ v F' H', SRel c.K H0 F0 F' ad σp' σ H' → Same H H' → Rep c.K F' v x → Q v H') → t σ H Q := by
  intro H0 F0 F ad σ H r Q k
  refine h.2 H0 F0 F ad σ H r Q fun v F' H' r' s res => ?_
  cases o with
  | false =>
    unfold Res at res
    rw [if_neg Bool.false_ne_true] at res
    exact k v F' H' r' s res
  | true =>
    unfold Res at res
    rw [if_pos rfl] at res
    obtain ⟨p, vs, xs, rfl, rfl, h1, h2, h3, rr⟩ := res
    have s1 : Same F' (upd F' p (.lst vs)) := same_upd h2
    refine k _ (upd F' p (.lst vs)) H' ⟨⟨r'.g.f.trans s1, r'.g.h, fun b u q => ?_, fun q z1 z2 => ?_⟩, r'.len, fun i x e => ?_, fun i xs e => ?_, r'.inj⟩ s (.lst (.inl (.inl upd_same)) (rr.mono s1))
    · by_cases hb : b = p
      · subst hb; rw [upd_same] at q; cases q; exact h3
      · rw [upd_ne hb] at q; exact r'.g.in_ b u q
    · have : q ≠ p := fun z => by
        rw [z] at z1
        exact z1 (r.g.h.free h1)
      rw [upd_ne this]; exact r'.g.new q z1 z2
    · obtain ⟨v, a1, a2⟩ := r'.val i x e
      exact ⟨v, a1, a2.mono s1⟩
    · obtain ⟨a1, a2, a3, us, a4, a5⟩ := r'.own i xs e
      refine ⟨a1, a2, ?_, us, a4, a5.mono s1⟩
      have : ad i ≠ p := fun z => by
        obtain ⟨_, _, _, vs', b4, _⟩ := r.own i xs (h.1 i xs e)
        rw [z, h1] at b4
        cases b4
      rw [upd_ne this]; exact a3
end
end Pv

/-! Part M: statements -/
namespace Pv
open PySem L2 PySem.Spec PyProof.Rows

theorem any_star : ∀ {l : List PySem.Expr}, (∀ e ∈ l, ∀ a p, e ≠ .Starred a p) → (l.any fun | .Starred .. => true | _ => false) = false
  | [], _ => rfl
  | e :: l, h => by
    rw [List.any_cons, any_star fun e' he => h e' (List.mem_cons_of_mem _ he), Bool.or_false]
    have := h e (List.mem_cons_self ..)
    cases e <;> first | rfl | exact absurd rfl (this _ _)
theorem swapped_two {env : Env} {x y : Str} {px py pt pt2 : Pos} {kt k2 : Nat} {a b : PySem.Expr} (kb : env.blockKind = .function) (kx : env.kindOf x = some .local) (ky : env.kindOf y = some .local) (hl : py.line = px.line) (hne : ¬ x = y)
    (hs : ∀ e ∈ [a, b], ∀ a p, e ≠ .Starred a p) (hf : [a, b].all (foldedForSure 8) = false) (hk : [a, b].all (constantsAlone 8) = false) :
    swappedStores [.Tuple [.Name x px, .Name y py] kt pt] (.Tuple [a, b] k2 pt2) env = pure (some [x, y]) := by
  have l1 : (y == x) = false := by simpa using fun e : y = x => hne e.symm
  have l2 : (x == y) = false := by simpa using hne
  have g2 := any_star hs
  have hn : List.filterMap (fun e : PySem.Expr => match e with
      | .Name id pos => if (env.kindOf id == some .local && pos.line == px.line) = true then some id else none
      | _ => none) [.Name x px, .Name y py] = [x, y] := by
    simp [List.filterMap_cons, kx, ky, hl]
  have g3 : ([x, y].length != [Expr.Name x px, Expr.Name y py].length || [x, y].eraseDups.length != [x, y].length) = false := by
    have : [x, y].eraseDups = [x, y] := by
      simp [List.eraseDups, List.eraseDupsBy, List.eraseDupsBy.loop, l1, l2]
    rw [this]
    rfl
  unfold swappedStores
  simp only [kb]
  refine Eq.trans (if_neg (fun h => Bool.false_ne_true h)) ?_
  refine Eq.trans (if_neg (fun h => Bool.false_ne_true (g2.symm.trans h))) ?_
  have g4 : ∀ l : List Str, l = [x, y] → (l.length != [Expr.Name x px, Expr.Name y py].length || l.eraseDups.length != l.length) = false := fun l e => by rw [e]; exact g3
  refine Eq.trans (if_neg (fun h => Bool.false_ne_true ((g4 _ hn).symm.trans h))) ?_
  refine Eq.trans (if_neg (fun h => Bool.false_ne_true (hf.symm.trans h))) ?_
  refine Eq.trans (if_neg (fun h => Bool.false_ne_true (hk.symm.trans h))) ?_
  exact congrArg (fun l => pure (some l)) hn

structure SOk (c : Cc) (sc : Scope) (X : Cx) : Prop where
  cx : CxOk c sc (fun _ => true) X
  xe : PassesOwn (model X.prog X.w) X.A X.env X.xe
  kind : sc.kind = .function
def FlowOk (K : PySem.W.Frag) (H0 F0 : Hp) : Fl → Ends → Prop
  | .nx σp, D => ∀ F ad σ H, SRel K H0 F0 F ad σp σ H → D.nx σ H
  | .bk σp, D => ∀ F ad σ H, SRel K H0 F0 F ad σp σ H → D.bk σ H
  | .ct σp, D => ∀ F ad σ H, SRel K H0 F0 F ad σp σ H → D.ct σ H
  | .rt x o, D => ∀ F H v, Grow F0 H0 F H → Res K H0 F H v x o → D.rt v H
def SS (c : Cc) (sc : Scope) (st : Stmt) (f : Fm → Option Fl) : Prop := ∃ t : TS, (∀ X, SOk c sc X → PS X st t) ∧ ∀ σp fl, f σp = some fl → ∀ H0 F0 F ad σ H D, SRel c.K H0 F0 F ad σp σ H → FlowOk c.K H0 F0 fl D → t D σ H
def SSs (c : Cc) (sc : Scope) (st : List Stmt) (f : Fm → Option Fl) : Prop := ∃ t : TS, (∀ X, SOk c sc X → PSs X st t) ∧ ∀ σp fl, f σp = some fl → ∀ H0 F0 F ad σ H D, SRel c.K H0 F0 F ad σp σ H → FlowOk c.K H0 F0 fl D → t D σ H
theorem SS.none {c : Cc} {sc : Scope} {st : Stmt} : SS c sc st fun _ => none := ⟨tNever, fun _ _ => ps_never, fun _ _ h => nomatch h⟩
theorem SS.congr {c : Cc} {sc : Scope} {st : Stmt} {f g : Fm → Option Fl} (h : SS c sc st f) (q : ∀ σ, g σ = f σ) : SS c sc st g :=
  let ⟨t, a, b⟩ := h; ⟨t, a, fun σp fl e => b σp fl (by rw [← q]; exact e)⟩

section
variable {K : PySem.W.Frag} {H0 F0 F H F' H' : Hp} {ad : Nat → Addr} {σp σp' : Fm} {σ : L2.St}
theorem SRel.rebase (r : SRel K H0 F0 F ad σp σ H) : SRel K H0 F F ad σp σ H := ⟨⟨Same.refl _, r.g.h, r.g.in_, fun _ _ h => h⟩, r.len, r.val, r.own, r.inj⟩
theorem SRel.join {F1 H1 : Hp} {ad1 : Nat → Addr} {σp1 : Fm} {σ1 : L2.St} (r1 : SRel K H0 F0 F1 ad1 σp1 σ1 H1) (r : SRel K H0 F1 F ad σp σ H) : SRel K H0 F0 F ad σp σ H :=
  ⟨⟨r1.g.f.trans r.g.f, r.g.h, r.g.in_, fun p h1 h2 => r.g.new p h1 (r1.g.new p h1 h2)⟩, r.len, r.val, r.own, r.inj⟩
theorem SRel.setVal {i : Nat} {v : V} {x : PV} (r : SRel K H0 F0 F ad σp σ H) (hx : Rep K F v x) : SRel K H0 F0 F ad (σp.set i (.val x)) (σ.set i (some v)) H := by
  have get : ∀ (j : Nat) s, (σp.set i (.val x))[j]? = some s → (j = i ∧ i < σp.length ∧ s = .val x) ∨ (j ≠ i ∧ σp[j]? = some s) := fun j s e => by
    by_cases hj : i = j
    · subst hj
      by_cases hl : i < σp.length
      · rw [List.getElem?_set_self hl] at e
        cases e
        exact .inl ⟨rfl, hl, rfl⟩
      · rw [List.getElem?_eq_none (by rw [List.length_set]; omega)] at e
        cases e
    · rw [List.getElem?_set_ne hj] at e
      exact .inr ⟨fun z => hj z.symm, e⟩
  refine ⟨r.g, by rw [List.length_set, List.length_set]; exact r.len, fun j y e => ?_, fun j xs e => ?_, fun j k xs ys e1 e2 => ?_⟩
  · rcases get j _ e with ⟨rfl, hl, h⟩ | ⟨hj, h⟩
    · cases h
      exact ⟨v, List.getElem?_set_self (by rw [← r.len]; exact hl), hx⟩
    · rw [List.getElem?_set_ne (fun z => hj z.symm)]
      exact r.val j y h
  · rcases get j _ e with ⟨_, _, h⟩ | ⟨hj, h⟩
    · cases h
    · rw [List.getElem?_set_ne (fun z => hj z.symm)]
      exact r.own j xs h
  · rcases get j _ e1 with ⟨_, _, h⟩ | ⟨_, h1⟩
    · cases h
    · rcases get k _ e2 with ⟨_, _, h⟩ | ⟨_, h2⟩
      · cases h
      · exact r.inj j k xs ys h1 h2
theorem SRel.setOwn {i : Nat} {p : Addr} {vs : List V} {xs : List PV} (r : SRel K H0 F0 F ad σp σ H) (h0 : H0 p = none) (hf : F p = none) (hp : H p = some (.lst vs)) (hx : Reps K F vs xs) (hn : ∀ j ys, σp[j]? = some (.own ys) → ad j ≠ p) :
    SRel K H0 F0 F (fun j => if j = i then p else ad j) (σp.set i (.own xs)) (σ.set i (some (.ref p))) H := by
  have get : ∀ (j : Nat) s, (σp.set i (.own xs))[j]? = some s → (j = i ∧ i < σp.length ∧ s = .own xs) ∨ (j ≠ i ∧ σp[j]? = some s) := fun j s e => by
    by_cases hj : i = j
    · subst hj
      by_cases hl : i < σp.length
      · rw [List.getElem?_set_self hl] at e
        cases e
        exact .inl ⟨rfl, hl, rfl⟩
      · rw [List.getElem?_eq_none (by rw [List.length_set]; omega)] at e
        cases e
    · rw [List.getElem?_set_ne hj] at e
      exact .inr ⟨fun z => hj z.symm, e⟩
  refine ⟨r.g, by rw [List.length_set, List.length_set]; exact r.len, fun j y e => ?_, fun j ys e => ?_, fun j k ys zs e1 e2 => ?_⟩
  · rcases get j _ e with ⟨_, _, h⟩ | ⟨hj, h⟩
    · cases h
    · rw [List.getElem?_set_ne (fun z => hj z.symm)]
      exact r.val j y h
  · rcases get j _ e with ⟨rfl, hl, h⟩ | ⟨hj, h⟩
    · cases h
      simp only [if_true]
      exact ⟨List.getElem?_set_self (by rw [← r.len]; exact hl), h0, hf, vs, hp, hx⟩
    · simp only [hj, if_false]
      rw [List.getElem?_set_ne (fun z => hj z.symm)]
      exact r.own j ys h
  · intro he
    rcases get j _ e1 with ⟨rfl, _, _⟩ | ⟨hj, h1⟩
    · rcases get k _ e2 with ⟨rfl, _, _⟩ | ⟨hk, h2⟩
      · rfl
      · simp only [if_true, hk, if_false] at he
        exact absurd he.symm (hn k zs h2)
    · rcases get k _ e2 with ⟨rfl, _, _⟩ | ⟨hk, h2⟩
      · simp only [if_true, hj, if_false] at he
        exact absurd he (hn j ys h1)
      · simp only [hj, hk, if_false] at he
        exact r.inj j k ys zs h1 h2 he
/-- one's own list is changed -/
theorem SRel.change {i : Nat} {vs : List V} {xs ys : List PV} (r : SRel K H0 F0 F ad σp σ H) (hi : σp[i]? = some (.own xs)) (hx : Reps K F vs ys) :
    SRel K H0 F0 F ad (σp.set i (.own ys)) σ (upd H (ad i) (.lst vs)) := by
  have hl : i < σp.length := (List.getElem?_eq_some_iff.mp hi).1
  obtain ⟨a1, a2, a3, us, a4, a5⟩ := r.own i xs hi
  have get : ∀ (j : Nat) s, (σp.set i (.own ys))[j]? = some s → (j = i ∧ s = .own ys) ∨ (j ≠ i ∧ σp[j]? = some s) := fun j s e => by
    by_cases hj : i = j
    · subst hj
      rw [List.getElem?_set_self hl] at e
      cases e
      exact .inl ⟨rfl, rfl⟩
    · rw [List.getElem?_set_ne hj] at e
      exact .inr ⟨fun z => hj z.symm, e⟩
  have old : ∀ (j : Nat) zs, (σp.set i (.own ys))[j]? = some (.own zs) → ∃ zs', σp[j]? = some (.own zs') := fun j zs e => by
    rcases get j _ e with ⟨rfl, _⟩ | ⟨_, h⟩
    · exact ⟨xs, hi⟩
    · exact ⟨zs, h⟩
  refine ⟨⟨r.g.f, fun b o e => ?_, fun b o e => ?_, r.g.new⟩, by rw [List.length_set]; exact r.len, fun j y e => ?_, fun j zs e => ?_, fun j k zs ws e1 e2 he => ?_⟩
  · rw [upd_ne (ne_of_none e a2)]
    exact r.g.h _ _ e
  · rw [upd_ne (ne_of_none e a3)]
    exact r.g.in_ _ _ e
  · rcases get j _ e with ⟨_, h⟩ | ⟨_, h⟩
    · cases h
    · exact r.val j y h
  · rcases get j _ e with ⟨rfl, h⟩ | ⟨hj, h⟩
    · cases h
      exact ⟨a1, a2, a3, vs, upd_same, hx⟩
    · obtain ⟨b1, b2, b3, ws, b4, b5⟩ := r.own j zs h
      refine ⟨b1, b2, b3, ws, ?_, b5⟩
      rw [upd_ne (fun z => hj (r.inj j i zs xs h hi z))]
      exact b4
  · obtain ⟨zs', h1⟩ := old j zs e1
    obtain ⟨ws', h2⟩ := old k ws e2
    exact r.inj j k zs' ws' h1 h2 he
theorem SRel.app : ∀ {ws : List (Nat × V)} {us : List (Nat × PV)} {σp : Fm} {σ : L2.St}, URel K F ws us → SRel K H0 F0 F ad σp σ H → SRel K H0 F0 F ad (appF us σp) (appV ws σ) H
  | _, _, _, _, .nil, h => h
  | p :: ws, q :: us, σp, σ, .cons a r, h => by
    unfold appF appV
    rw [a.1]
    exact SRel.app r (h.setVal a.2)
/-- behind an expression: its value, or the list of one's own that it has made, is laid into a slot -/
theorem SRel.store {i : Nat} {v : V} {x : PV} {o : Bool} (r0 : SRel K H0 F0 F ad σp σ H) (hown : ∀ (i : Nat) xs, σp'[i]? = some (.own xs) → σp[i]? = some (.own xs)) (r : SRel K H0 F0 F' ad σp' σ H') (res : Res K H F' H' v x o) :
    ∃ ad', SRel K H0 F0 F' ad' (σp'.set i (slotOf x o)) (σ.set i (some v)) H' := by
  cases o with
  | false =>
    unfold Res at res
    rw [if_neg Bool.false_ne_true] at res
    exact ⟨ad, r.setVal res⟩
  | true =>
    unfold Res at res
    rw [if_pos rfl] at res
    obtain ⟨p, vs, xs, rfl, rfl, h1, h2, h3, rr⟩ := res
    refine ⟨_, r.setOwn (r0.g.h.free h1) h2 h3 rr fun j ys hj => ?_⟩
    rintro rfl
    obtain ⟨_, _, _, us, b4, _⟩ := r0.own j ys (hown j ys hj)
    rw [h1] at b4
    cases b4
end

section
variable {c : Cc} {sc : Scope}
/-- blocks -/
theorem sss_of {f : Fm → Stmt → Option Fl} : ∀ {l : List Stmt}, (∀ s ∈ l, SS c sc s fun σ => f σ s) → SSs c sc l fun σ => exL f l σ
  | [], _ => ⟨tNext, fun _ _ => pss_nil, fun σp fl h H0 F0 F ad σ H D r k => by
      simp only [exL] at h
      cases h
      exact k F ad σ H r⟩
  | [s], h => by
    obtain ⟨t, a, b⟩ := h s (List.mem_cons_self ..)
    exact ⟨t, fun X x => pss_one (a X x), fun σp fl e => b σp fl (by simp only [exL] at e; exact e)⟩
  | s :: s' :: l, h => by
    obtain ⟨t, a, b⟩ := h s (List.mem_cons_self ..)
    obtain ⟨u, a2, b2⟩ := sss_of (f := f) (l := s' :: l) fun x hx => h x (List.mem_cons_of_mem _ hx)
    refine ⟨tSeq t u, fun X x => pss_cons (a X x) (a2 X x), fun σp fl e H0 F0 F ad σ H D r k => ?_⟩
    simp only [exL] at e
    obtain ⟨g, e1, e2⟩ := Option.bind_eq_some_iff.mp e
    show t { D with nx := u D } σ H
    refine b σp g e1 H0 F0 F ad σ H _ r ?_
    cases g with
    | nx σ1 => exact fun F1 ad1 σ2 H1 r1 => b2 σ1 fl e2 H0 F0 F1 ad1 σ2 H1 D r1 k
    | bk σ1 => simp only [thenF] at e2; cases e2; exact k
    | ct σ1 => simp only [thenF] at e2; cases e2; exact k
    | rt x o => simp only [thenF] at e2; cases e2; exact k
theorem ss_ret {e : PySem.Expr} {pos : Pos} {g : Fm → Option (PV × Bool × Fm)} {t : TE} (h1 : ∀ X, SOk c sc X → PE X e t) (h2 : ∀ σp x o σp', g σp = some (x, o, σp') → EvF c t σp x o σp') : SS c sc (.Return (some e) pos) fun σ => (g σ).bind fun p => some (.rt p.1 p.2.1) := by
  refine ⟨tRet t, fun X x => ps_ret (h1 X x), fun σp fl q H0 F0 F ad σ H D r k => ?_⟩
  obtain ⟨⟨x, o, σp'⟩, e1, q⟩ := Option.bind_eq_some_iff.mp q
  cases q
  exact (h2 σp x o σp' e1).2 H0 F0 F ad σ H r _ fun v F' H' r' s res => k F' H' v r'.g (res.mono r.g.h)
theorem storeN_of {x : Str} {s : Slot} {σ σ' : Fm} (h : storeN c.N sc x s σ = some σ') : ∃ i, idx c.N x = some i ∧ locB sc x = true ∧ σ' = σ.set i s := by
  unfold storeN at h
  obtain ⟨i, e1, h⟩ := Option.bind_eq_some_iff.mp h
  split at h
  · cases h
    exact ⟨i, e1, by assumption, rfl⟩
  · cases h
theorem swaps_no {e : PySem.Expr} (h : isComp e = false) (tg : Option PySem.Expr) (line : Nat) (env : Env) : swapsWith e tg line env = pure false := by
  cases e <;> first | rfl | (simp [isComp] at h)
theorem ss_set (m : Bool) {x : Str} {px : Pos} {e : PySem.Expr} {pos : Pos} {g : Fm → Option (PV × Bool × Fm)} {t : TE} (nd : c.N.Nodup) (h1 : ∀ X, SOk c sc X → PE X e t) (h2 : ∀ σp x o σp', g σp = some (x, o, σp') → EvF c t σp x o σp')
    (h3 : ∀ X, SOk c sc X → ∀ i, idx c.N x = some i → locB sc x = true → PS X (.Assign [.Name x px] e pos) (tAsg t (gName i))) :
    SS c sc (.Assign [.Name x px] e pos) fun σ => (g σ).bind fun p => (storeN c.N sc x (slotOf p.1 (m && p.2.1)) p.2.2).map .nx := by
  by_cases hn : ∃ i, idx c.N x = some i ∧ locB sc x = true
  · obtain ⟨i, hi, hl⟩ := hn
    refine ⟨tAsg t (gName i), fun X ok => ?_, fun σp fl q H0 F0 F ad σ H D r k => ?_⟩
    · exact h3 X ok i hi hl
    · obtain ⟨⟨y, o, σp'⟩, e1, q⟩ := Option.bind_eq_some_iff.mp q
      obtain ⟨σ2, e2, rfl⟩ := Option.map_eq_some_iff.mp q
      obtain ⟨i', b1, b2, rfl⟩ := storeN_of e2
      rw [hi] at b1
      cases b1
      have ev := h2 σp y o σp' e1
      cases m with
      | true =>
        refine ev.2 H0 F0 F ad σ H r _ fun v F' H' r' s res => ?_
        obtain ⟨ad', r2⟩ := SRel.store (i := i) r ev.1 r' res
        exact k F' ad' _ H' r2
      | false => exact ev.s H0 F0 F ad σ H r _ fun v F' H' r' s rx => k F' ad _ H' (r'.setVal rx)
  · refine ⟨tNever, fun _ _ => ps_never, fun σp fl q => ?_⟩
    obtain ⟨⟨y, o, σp'⟩, e1, q⟩ := Option.bind_eq_some_iff.mp q
    obtain ⟨σ2, e2, rfl⟩ := Option.map_eq_some_iff.mp q
    obtain ⟨i', b1, b2, _⟩ := storeN_of e2
    exact absurd ⟨i', b1, b2⟩ hn
theorem ss_tup {ts : List PySem.Expr} {kt : Nat} {pt pos : Pos} {e : PySem.Expr} {g : Fm → Option (PV × Bool × Fm)} {t : TE} (nd : c.N.Nodup) (h1 : ∀ X, SOk c sc X → PE X e t) (h2 : ∀ σp x o σp', g σp = some (x, o, σp') → EvF c t σp x o σp')
    (hc : isComp e = false) (ht : isTup e = false) : SS c sc (.Assign [.Tuple ts kt pt] e pos) fun σ => (g σ).bind fun p => (updT c.N sc (fun _ => true) (.Tuple ts kt pt) p.1).map fun us => .nx (appF us p.2.2) := by
  obtain ⟨gt, g1, g2⟩ := sg (c := c) (sc := sc) (asg := fun _ => true) nd (.Tuple ts kt pt)
  refine ⟨tAsg t gt, fun X ok => ?_, fun σp fl q H0 F0 F ad σ H D r k => ?_⟩
  · refine ps_asg (h1 X ok) (g1 X ok.cx) (swaps_no hc (some (.Tuple ts kt pt)) pos.line X.env) ?_ rfl
    cases e <;> first | rfl | (simp [isTup] at ht)
  · obtain ⟨⟨y, o, σp'⟩, e1, q⟩ := Option.bind_eq_some_iff.mp q
    obtain ⟨us, e2, rfl⟩ := Option.map_eq_some_iff.mp q
    have ev := h2 σp y o σp' e1
    refine ev.s H0 F0 F ad σ H r _ fun v F' H' r' s rx => ?_
    exact g2 y us e2 F' H' v σ D.nx r'.g.in_ rx fun ws hw => k F' ad _ H' (r'.app hw)
theorem kind_ok {X : Cx} (ok : SOk c sc X) : X.env.blockKind = .function := by
  unfold Env.blockKind
  rw [ok.cx.sc, ok.kind]
  rfl
theorem ss_par {ts : List PySem.Expr} {kt k2 : Nat} {pt pt2 pos : Pos} {a b : PySem.Expr} {x y : Str} {ga gb : Fm → Option (PV × Bool × Fm)} {ta tb : TE} (nd : c.N.Nodup) (hp : parB sc ts [a, b] = some (x, y)) (ha : ∀ X, SOk c sc X → PE X a ta) (hb : ∀ X, SOk c sc X → PE X b tb)
    (ea : ∀ σp x o σp', ga σp = some (x, o, σp') → EvF c ta σp x o σp') (eb : ∀ σp x o σp', gb σp = some (x, o, σp') → EvF c tb σp x o σp') :
    SS c sc (.Assign [.Tuple ts kt pt] (.Tuple [a, b] k2 pt2) pos) fun σ => (ga σ).bind fun p => (gb p.2.2).bind fun q => (storeN c.N sc x (.val p.1) q.2.2).bind fun σ1 => (storeN c.N sc y (.val q.1) σ1).map .nx := by
  unfold parB at hp
  split at hp
  · rename_i a' b' x' px y' py a1 b1 he1
    split at hp
    · rename_i hc
      cases hp
      cases he1
      simp only [Bool.and_eq_true, decide_eq_true_eq, Bool.not_eq_true'] at hc
      obtain ⟨⟨⟨⟨⟨⟨lx, ly⟩, hline⟩, hne⟩, hst⟩, hf⟩, hk⟩ := hc
      have hne' : ¬ x = y := by simpa using hne
      have hs := starB_no hst
      by_cases hn : (∃ i, idx c.N x = some i) ∧ ∃ j, idx c.N y = some j
      · obtain ⟨⟨i, hi⟩, ⟨j, hj⟩⟩ := hn
        have hij : i ≠ j := fun z => hne' (by have h1 := idx_get hi; have h2 := idx_get hj; rw [z, h2] at h1; exact (Option.some.inj h1).symm)
        refine ⟨tPar i j (tCons ta (tCons tb tNil)), fun X ok => ?_, fun σp fl q H0 F0 F ad σ H D r k => ?_⟩
        · have kx : X.env.kindOf x = some .local := by show X.env.scope.names.lookup x = _; rw [ok.cx.sc]; exact lx
          have ky : X.env.kindOf y = some .local := by show X.env.scope.names.lookup y = _; rw [ok.cx.sc]; exact ly
          refine ps_par ok.cx.calm (by rw [ok.cx.N]; exact nd) (by rw [ok.cx.N]; exact idx_get hi) (by rw [ok.cx.N]; exact idx_get hj) hij (by rw [ok.cx.sc]; exact lx) (by rw [ok.cx.sc]; exact ly) (pa_cons (ha X ok) (pa_cons (hb X ok) pa_nil (star_of (hs b (by simp)))) (star_of (hs a (by simp)))) ?_ rfl
          exact swapped_two (kind_ok ok) kx ky (by simpa using hline) hne' hs hf hk
        · obtain ⟨⟨xa, oa, σ1⟩, e1, q⟩ := Option.bind_eq_some_iff.mp q
          obtain ⟨⟨xb, ob, σ2⟩, e2, q⟩ := Option.bind_eq_some_iff.mp q
          obtain ⟨σ3, e3, q⟩ := Option.bind_eq_some_iff.mp q
          obtain ⟨σ4, e4, rfl⟩ := Option.map_eq_some_iff.mp q
          obtain ⟨i', b1, _, rfl⟩ := storeN_of e3
          obtain ⟨j', b2, _, rfl⟩ := storeN_of e4
          rw [hi] at b1; cases b1
          rw [hj] at b2; cases b2
          refine (ea σp xa oa σ1 e1).s H0 F0 F ad σ H r _ fun v F1 H1 r1 s1 rx => ?_
          refine (eb σ1 xb ob σ2 e2).s H0 F1 F1 ad σ H1 r1.rebase _ fun w F2 H2 r2 s2 ry => ?_
          exact ⟨v, w, rfl, k F2 ad _ H2 (((r1.join r2).setVal (rx.mono r2.g.f)).setVal ry)⟩
      · refine ⟨tNever, fun _ _ => ps_never, fun σp fl q => ?_⟩
        obtain ⟨_, _, q⟩ := Option.bind_eq_some_iff.mp q
        obtain ⟨_, _, q⟩ := Option.bind_eq_some_iff.mp q
        obtain ⟨σ3, e3, q⟩ := Option.bind_eq_some_iff.mp q
        obtain ⟨σ4, e4, rfl⟩ := Option.map_eq_some_iff.mp q
        obtain ⟨i', b1, _, _⟩ := storeN_of e3
        obtain ⟨j', b2, _, _⟩ := storeN_of e4
        exact absurd ⟨⟨_, b1⟩, ⟨_, b2⟩⟩ hn
    · cases hp
  · cases hp

/-! ### a list of one's own: append, pop, an item -/
theorem own_ty {K : PySem.W.Frag} {H0 F0 F H : Hp} {ad : Nat → Addr} {σp : Fm} {σ : L2.St} {i : Nat} {xs : List PV} (r : SRel K H0 F0 F ad σp σ H) (h : σp[i]? = some (.own xs)) : tyV K "list" (.ref (ad i)) H := by
  obtain ⟨_, _, _, vs, h4, _⟩ := r.own i xs h
  exact .inl ⟨rfl, vs, .inl (.inl h4)⟩
theorem ss_append {x : Str} {px pa pos epos : Pos} {a : PySem.Expr} {i : Nat} {g : Fm → Option (PV × Bool × Fm)} {t : TE} (hi : idx c.N x = some i) (h0 : okNm x = true) (hv : visB sc x = true) (hs : starB [a] = false) (hln : (pa.endLine == pos.line) = true) (h1 : ∀ X, SOk c sc X → PE X a t) (h2 : ∀ σp x o σp', g σp = some (x, o, σp') → EvF c t σp x o σp') :
    SS c sc (.Expr (.Call (.Attribute (.Name x px) "append" pa) [a] [] pos) epos) fun σ => (match σ[i]? with
        | some (.own _) => (g σ).bind fun p => (match p.2.2[i]? with
              | some (.own xs) => if xs.length < big then some (.nx (p.2.2.set i (.own (xs ++ [p.1])))) else none
              | _ => none)
        | _ => none) := by
  obtain ⟨d1, d2⟩ := okNm_d h0
  refine ⟨tDrop (tBM c.K "list" rAppend (tVar i) (tCons t tNil)), fun X ok => ?_, fun σp fl q H0 F0 F ad σ H D r k => ?_⟩
  · refine ps_expr ?_ (by rfl)
    rw [← ok.cx.K]
    exact pe_bm PySem.F.plainAttrs_list PySem.F.slot_list_append PySem.F.type_list_append mt_append (pe_var (by rw [ok.cx.N]; exact idx_get hi) (by rw [ok.cx.sc]; exact vis_of hv) d1 d2)
      (pa_cons (h1 X ok) pa_nil (star_of (starB_no hs a (List.mem_cons_self ..)))) rfl (by rw [star_of (starB_no hs a (List.mem_cons_self ..))]; rfl) hln (star_of (starB_no hs a (List.mem_cons_self ..))) rfl
  · dsimp only at q
    split at q
    · rename_i ys hy
      obtain ⟨⟨y, o, σp'⟩, e1, q⟩ := Option.bind_eq_some_iff.mp q
      simp only at q
      split at q
      · rename_i xs hx
        split at q
        · rename_i hl
          cases q
          have ev := h2 σp y o σp' e1
          refine ⟨_, (r.own i ys hy).1, own_ty r hy, ?_⟩
          refine ev.s H0 F0 F ad σ H r _ fun v F' H' r' s rx => ?_
          obtain ⟨_, _, _, vs, b4, b5⟩ := r'.own i xs hx
          refine ⟨ad i, vs, v, rfl, rfl, b4, ?_, ?_⟩
          · rw [b5.length]
            exact Nat.lt_of_lt_of_le hl big_line
          · exact k F' ad σ _ (r'.change hx (b5.append (.cons rx .nil)))
        · cases q
      · cases q
    · cases q
theorem ss_pop {x : Str} {px pa pos epos : Pos} {i : Nat} (hi : idx c.N x = some i) (h0 : okNm x = true) (hv : visB sc x = true) (hln : (pa.endLine == pos.line) = true) :
    SS c sc (.Expr (.Call (.Attribute (.Name x px) "pop" pa) [] [] pos) epos) fun σ => (match σ[i]? with
        | some (.own xs) => if xs.isEmpty then none else some (.nx (σ.set i (.own xs.dropLast)))
        | _ => none) := by
  obtain ⟨d1, d2⟩ := okNm_d h0
  refine ⟨tDrop (tBM0 c.K "list" rPop (tVar i)), fun X ok => ?_, fun σp fl q H0 F0 F ad σ H D r k => ?_⟩
  · refine ps_expr ?_ (by rfl)
    rw [← ok.cx.K]
    exact pe_bm0 PySem.F.plainAttrs_list PySem.F.slot_list_pop PySem.F.type_list_pop mt_pop (pe_var (by rw [ok.cx.N]; exact idx_get hi) (by rw [ok.cx.sc]; exact vis_of hv) d1 d2) rfl hln
  · dsimp only at q
    split at q
    · rename_i xs hx
      split at q
      · cases q
      · rename_i hne
        cases q
        obtain ⟨b1, _, _, vs, b4, b5⟩ := r.own i xs hx
        refine ⟨_, b1, own_ty r hx, ?_⟩
        have hvs : vs ≠ [] := fun e => by subst e; cases b5; exact hne rfl
        have hl : vs.length - 1 < vs.length := by have := List.length_pos_iff.mpr hvs; omega
        exact ⟨ad i, vs, vs[vs.length - 1], rfl, rfl, b4, List.getElem?_eq_getElem hl, k F ad σ _ (r.change hx b5.dropLast)⟩
    · cases q
theorem ss_item {x : Str} {px ps pos : Pos} {ie e : PySem.Expr} {i : Nat} {g gi : Fm → Option (PV × Bool × Fm)} {t ti : TE} (hi : idx c.N x = some i) (h0 : okNm x = true) (hv : visB sc x = true) (hc : isComp e = false) (hsl : isSl ie = false) (h1 : ∀ X, SOk c sc X → PE X e t) (h2 : ∀ σp x o σp', g σp = some (x, o, σp') → EvF c t σp x o σp')
    (h3 : ∀ X, SOk c sc X → PE X ie ti) (h4 : ∀ σp x o σp', gi σp = some (x, o, σp') → EvF c ti σp x o σp') :
    SS c sc (.Assign [.Subscript (.Name x px) ie ps] e pos) fun σ => (g σ).bind fun p => (match p.2.2[i]? with
        | some (.own _) => (gi p.2.2).bind fun q => (match q.2.2[i]?, q.1 with
          | some (.own xs), .int k => (ixN xs.length k).map fun j => .nx (q.2.2.set i (.own (xs.set j p.1)))
          | _, _ => none)
        | _ => none) := by
  obtain ⟨d1, d2⟩ := okNm_d h0
  refine ⟨tAsg t (gSub (tVar i) ti rSetL), fun X ok => ?_, fun σp fl q H0 F0 F ad σ H D r k => ?_⟩
  · exact ps_asg (h1 X ok) (pg_sub (pe_var (by rw [ok.cx.N]; exact idx_get hi) (by rw [ok.cx.sc]; exact vis_of hv) d1 d2) (h3 X ok) set_list (by intro _; cases ie <;> first | rfl | (simp [isSl] at hsl))) (swaps_no hc (some (.Subscript (.Name x px) ie ps)) pos.line X.env) (by cases e <;> rfl) rfl
  · obtain ⟨⟨y, o, σp'⟩, e1, q⟩ := Option.bind_eq_some_iff.mp q
    simp only at q
    split at q
    · rename_i ys hy
      obtain ⟨⟨z, o2, σp2⟩, e2, q⟩ := Option.bind_eq_some_iff.mp q
      simp only at q
      split at q
      · rename_i xs n hx
        obtain ⟨j, e3, rfl⟩ := Option.map_eq_some_iff.mp q
        refine (h2 σp y o σp' e1).s H0 F0 F ad σ H r _ fun v F1 H1 r1 s1 rx => ?_
        refine ⟨_, (r1.own i ys hy).1, ?_⟩
        refine (h4 σp' _ o2 σp2 e2).s H0 F1 F1 ad σ H1 r1.rebase _ fun w F2 H2 r2 s2 ry => ?_
        cases ry
        obtain ⟨_, _, _, vs, b4, b5⟩ := r2.own i xs hx
        exact ⟨ad i, vs, n, j, rfl, rfl, b4, by rw [b5.length]; exact e3, k F2 ad σ _ ((r1.join r2).change hx (b5.set (rx.mono r2.g.f) j))⟩
      · cases q
    · cases q

/-! ### if, while, for -/
theorem tst_ok {e : PySem.Expr} {f : Sl → PySem.Expr → Option Bool} {t : TT} (h : ∀ σp b, f σp e = some b → EvT c.K t σp b) {σp : Fm} {b : Bool} (q : evTst f σp e = some b) :
    ∀ H0 F0 F ad σ H, SRel c.K H0 F0 F ad σp σ H → ∀ Q : Bool → Hp → Prop, (∀ F' H', SRel c.K H0 F0 F' ad σp σ H' → Q b H') → t σ H Q := by
  intro H0 F0 F ad σ H r Q k
  unfold evTst at q
  obtain ⟨o1, o2⟩ := r.opens fun _ => true
  refine h _ _ q _ H σ o2 r.thaw Q fun FB H' g => ?_
  obtain ⟨F', g', _⟩ := r.back g
  exact k F' H' (r.grow g')
theorem ss_if {cl : List (Nat × Bool)} {e : PySem.Expr} {a b : List Stmt} {pos : Pos} {f : Sl → PySem.Expr → Option Bool} {t : TT} {ga gb : Fm → Option Fl} (h1 : ∀ X, SOk c sc X → PT X e t) (h2 : ∀ σp b, f σp e = some b → EvT c.K t σp b) (ha : SSs c sc a ga) (hb : SSs c sc b gb) :
    SS c sc (.If e a b pos) fun σ => (evTst f σ e).bind fun k => (if k then ga σ else gb σ).map (clrF cl) := by
  obtain ⟨ta, a1, a2⟩ := ha
  obtain ⟨tb, b1, b2⟩ := hb
  refine ⟨tIfS t ta tb, fun X ok => ps_if (h1 X ok) (a1 X ok) (b1 X ok), fun σp fl q H0 F0 F ad σ H D r k => ?_⟩
  obtain ⟨v, e1, q⟩ := Option.bind_eq_some_iff.mp q
  obtain ⟨fl', e2, rfl⟩ := Option.map_eq_some_iff.mp q
  have k : FlowOk c.K H0 F0 fl' D := by
    cases fl' with
    | nx σ' => exact fun F ad σ H r => let ⟨F', r'⟩ := r.clr cl; k F' ad σ H r'
    | _ => exact k
  refine tst_ok h2 e1 H0 F0 F ad σ H r _ fun F' H' r' => ?_
  cases v with
  | true =>
    rw [if_pos rfl] at e2 ⊢
    exact a2 σp fl' e2 H0 F0 F' ad σ H' D r' k
  | false =>
    rw [if_neg Bool.false_ne_true] at e2 ⊢
    exact b2 σp fl' e2 H0 F0 F' ad σ H' D r' k
theorem never_of {X : Cx} (ok : SOk c sc X) : PassesOwn (model X.prog X.w) X.A X.env X.xe := ok.xe
/-- a turn's end -/
theorem loop_end {K : PySem.W.Frag} {H0 F0 : Hp} {cl : List (Nat × Bool)} {g : Fl} {kf : Fm → Option Fl} {fl : Fl} {D : Ends} {N : L2.St → Hp → Prop} (h : loopF (clr cl) g kf = some fl) (k : FlowOk K H0 F0 fl D) (hn : ∀ σ1, kf σ1 = some fl → ∀ F ad σ H, SRel K H0 F0 F ad σ1 σ H → N σ H) :
    FlowOk K H0 F0 g { D with nx := N, ct := N, bk := D.nx } := by
  cases g with
  | nx σ1 => exact fun F ad σ H r => let ⟨F', r'⟩ := r.clr cl; hn _ h F' ad σ H r'
  | ct σ1 => exact fun F ad σ H r => let ⟨F', r'⟩ := r.clr cl; hn _ h F' ad σ H r'
  | bk σ1 => simp only [loopF] at h; cases h; exact fun F ad σ H r => let ⟨F', r'⟩ := r.clr cl; k F' ad σ H r'
  | rt x o => simp only [loopF] at h; cases h; exact k
theorem ss_while {cl : List (Nat × Bool)} {e : PySem.Expr} {a : List Stmt} {pos : Pos} {f : Sl → PySem.Expr → Option Bool} {t : TT} {ga : Fm → Option Fl} {W : Nat} (h1 : ∀ X, SOk c sc X → PT X e t) (h2 : ∀ σp b, f σp e = some b → EvT c.K t σp b) (ha : SSs c sc a ga) :
    SS c sc (.While e a [] pos) fun σ => whL (clr cl) (fun σ => evTst f σ e) ga W (clr cl σ) := by
  obtain ⟨ta, a1, a2⟩ := ha
  refine ⟨tWhile t ta, fun X ok => ps_while (never_of ok) (h1 X ok) (a1 X ok), fun σp fl q H0 F0 F ad σ H D r k => ?_⟩
  obtain ⟨F', r⟩ := r.clr cl
  refine ⟨fun m σ H => ∃ σp F ad, SRel c.K H0 F0 F ad σp σ H ∧ whL (clr cl) (fun σ => evTst f σ e) ga m σp = some fl, ⟨W, _, F', ad, r, q⟩, ?_⟩
  rintro m σ1 H1 ⟨σp1, F1, ad1, r1, q1⟩
  cases m with
  | zero => simp only [whL] at q1; cases q1
  | succ m =>
    simp only [whL] at q1
    obtain ⟨b, e1, q1⟩ := Option.bind_eq_some_iff.mp q1
    refine tst_ok h2 e1 H0 F0 F1 ad1 σ1 H1 r1 _ fun F' H' r' => ?_
    cases b with
    | true =>
      rw [if_pos rfl] at q1 ⊢
      obtain ⟨g, e2, q2⟩ := Option.bind_eq_some_iff.mp q1
      refine ⟨fun σ H => ∃ σp F ad, SRel c.K H0 F0 F ad σp σ H ∧ whL (clr cl) (fun σ => evTst f σ e) ga m σp = some fl, fun σ' H' h => ⟨m, Nat.lt_succ_self m, h⟩, ?_⟩
      exact a2 σp1 g e2 H0 F0 F' ad1 σ1 H' _ r' (loop_end q2 k fun σ2 e3 F ad σ H r => ⟨σ2, F, ad, r, e3⟩)
    | false =>
      rw [if_neg Bool.false_ne_true] at q1 ⊢
      cases q1
      exact k F' ad1 σ1 H' r'
theorem itr_ok {e : PySem.Expr} {f : Sl → PySem.Expr → Option (List PV)} {wi : TI} (h : ∀ σp xs, f σp e = some xs → EvI c.K wi σp xs) {σp σp' : Fm} {xs : List PV} (q : evItr c.N f σp e = some (xs, σp')) :
    ∀ H0 F0 F ad σ H, SRel c.K H0 F0 F ad σp σ H → ∀ R : It → Hp → Prop, (∀ J vs F' H', SRel c.K H0 F0 F' ad σp' σ H' → Reps c.K F' vs xs → ItOk J F' vs → R J H') → wi σ H R := by
  intro H0 F0 F ad σ H r R k
  unfold evItr at q
  split at q
  · obtain ⟨ys, e1, q⟩ := Option.bind_eq_some_iff.mp q
    cases q
    have r2 := r.freeze (fun i => match c.N[i]? with | some x => (occ 30 e).any (· == x) | none => false)
    exact h _ _ e1 _ H σ r2.g.in_ r2.vis R fun J vs F' H' g rs it => k J vs F' H' (r2.grow g) rs it
  · obtain ⟨ys, e1, q⟩ := Option.bind_eq_some_iff.mp q
    cases q
    exact h _ _ e1 F H σ r.g.in_ r.vis R fun J vs F' H' g rs it => k J vs F' H' (r.grow g) rs it
theorem ss_for {cl : List (Nat × Bool)} {tg it : PySem.Expr} {a : List Stmt} {pos : Pos} {f : Sl → PySem.Expr → Option (List PV)} {wi : TI} {ga : Fm → Option Fl} (nd : c.N.Nodup) (hf : ∀ env x, foldedSetIterable it env x = pure x) (h1 : ∀ X, SOk c sc X → PI X tg it wi) (h2 : ∀ σp xs, f σp it = some xs → EvI c.K wi σp xs) (ha : SSs c sc a ga) :
    SS c sc (.For tg it a [] pos) fun σ => (evItr c.N f σ it).bind fun p => forL (clr cl) (fun x σ => (updT c.N sc (fun _ => true) tg x).map fun us => appF us σ) ga p.1 (clr cl p.2) := by
  obtain ⟨ta, a1, a2⟩ := ha
  obtain ⟨gt, g1, g2⟩ := sg (c := c) (sc := sc) (asg := fun _ => true) nd tg
  refine ⟨tFor wi gt ta, fun X ok => ps_for (never_of ok) ok.cx.calm (h1 X ok) (g1 X ok.cx) (a1 X ok) (hf _), fun σp fl q H0 F0 F ad σ H D r k => ?_⟩
  obtain ⟨⟨items, σp1⟩, e1, q⟩ := Option.bind_eq_some_iff.mp q
  simp only at q
  generalize hb : (fun x σ => (updT c.N sc (fun _ => true) tg x).map fun us => appF us σ : PV → Fm → Option Fm) = bf at q
  refine itr_ok h2 e1 H0 F0 F ad σ H r _ fun J vs F1 H1 r1 rs it => ?_
  obtain ⟨F1', r1'⟩ := r1.rebase.clr cl
  refine ⟨fun i m σ H => m = vs.length - i ∧ i ≤ vs.length ∧ ∃ σp F ad, SRel c.K H0 F1 F ad σp σ H ∧ forL (clr cl) bf ga (items.drop i) σp = some fl, ⟨vs.length, by simp, Nat.zero_le _, _, F1', ad, r1', q⟩, ?_⟩
  rintro i m σ2 H2 ⟨rfl, hi, σp2, F2, ad2, r2, q2⟩
  obtain ⟨it1, it2⟩ := it H2 i (r2.g.f.trans r2.g.in_)
  by_cases hlt : i < vs.length
  · refine .inr ⟨(it1 hlt).1, fun σ H => i + 1 ≤ vs.length ∧ ∃ σp F ad, SRel c.K H0 F1 F ad σp σ H ∧ forL (clr cl) bf ga (items.drop (i + 1)) σp = some fl, fun σ' H' h => ⟨vs.length - (i + 1), by omega, rfl, h.1, h.2⟩, fun x H' hy => ?_⟩
    obtain ⟨rfl, hx⟩ := (it1 hlt).2 x H' hy
    obtain ⟨xi, hxi, rx⟩ := rs.getV hx
    have hd : items.drop i = xi :: items.drop (i + 1) := by
      obtain ⟨hl, e⟩ := List.getElem?_eq_some_iff.mp hxi
      rw [List.drop_eq_getElem_cons hl, e]
    rw [hd] at q2
    simp only [forL] at q2
    obtain ⟨σp3, e3, q3⟩ := Option.bind_eq_some_iff.mp q2
    obtain ⟨g, e4, q4⟩ := Option.bind_eq_some_iff.mp q3
    have e3' := e3
    rw [← hb] at e3'
    obtain ⟨us, e5, rfl⟩ := Option.map_eq_some_iff.mp e3'
    refine g2 xi us e5 F2 H' x σ2 _ r2.g.in_ (rx.mono r2.g.f) fun ws hw => ?_
    refine a2 _ g e4 H0 F1 F2 ad2 _ H' _ (r2.app hw) ?_
    refine loop_end (D := D) q4 ?_ fun σp4 e6 F ad σ H r => ⟨hlt, σp4, F, ad, r, e6⟩
    -- the wish for the whole, from the loop's own base
    cases fl with
    | nx σf => exact fun F ad σ H r => k F ad σ H (r1.join r)
    | bk σf => exact fun F ad σ H r => k F ad σ H (r1.join r)
    | ct σf => exact fun F ad σ H r => k F ad σ H (r1.join r)
    | rt y o => exact fun F H v g res => k F H v ⟨r1.g.f.trans g.f, g.h, g.in_, fun p a b => g.new p a (r1.g.new p a b)⟩ res
  · have e : i = vs.length := by omega
    subst e
    refine .inl ⟨it2 (Nat.le_refl _), ?_⟩
    have hd : items.drop vs.length = [] := by rw [rs.length]; exact List.drop_length ..
    rw [hd] at q2
    simp only [forL] at q2
    cases q2
    exact k F2 ad2 σ2 H2 (r1.join r2)
end
end Pv

/-! Part N: all statements; defs -/
namespace Pv
open PySem L2 PySem.Spec PyProof.Rows

section
variable {c : Cc} {T : Tb}
theorem top_of {M : Nat} (b0 : Bool) (ok : TabOk c T) (sc : Scope) (e : PySem.Expr) : ∃ t : TE, (∀ X, SOk c sc X → PE X e t) ∧ ∀ σp x o σp', evTop b0 c.N (evE T c.N M sc) σp e = some (x, o, σp') → EvF c t σp x o σp' := by
  obtain ⟨t, a, b⟩ := (sound ok M).e sc (fun _ => true) e
  exact ⟨t, fun X x => a X x.cx, fun σp x o σp' q => top_ok b q⟩
theorem ownT_some {r : Option (PV × Bool × Fm)} {ys : List PV} {σ : Fm} (h : ownT r = some (ys, σ)) : r = some (.lst ys, true, σ) := by
  unfold ownT at h
  split at h
  · cases h; rfl
  · cases h
theorem SS.weak {sc : Scope} {st : Stmt} {f g : Fm → Option Fl} (h : SS c sc st f) (q : ∀ σ fl, g σ = some fl → f σ = some fl) : SS c sc st g :=
  let ⟨t, a, b⟩ := h; ⟨t, a, fun σp fl e => b σp fl (q σp fl e)⟩
theorem swap_true {sc : Scope} {X : Cx} {x : Str} {px : Pos} {elt : PySem.Expr} {gens : List Comprehension} {scope : Scope} {p spos : Pos} (ok : SOk c sc X) (h : swapB sc x px (.ListComp elt gens scope p) = true) :
    X.env.scope.names.lookup x = some .local ∧ swapsWith (.ListComp elt gens scope p) (some (.Name x px)) spos.line X.env = pure true := by
  unfold swapB at h
  simp only [Bool.and_eq_true, decide_eq_true_eq, Bool.not_eq_true'] at h
  obtain ⟨⟨h1, h2⟩, h3⟩ := h
  have h1' : X.env.scope.names.lookup x = some .local := by rw [ok.cx.sc]; exact h1
  exact ⟨h1', sw_true (by rw [ok.cx.sc]; exact ok.kind) h1' h2 h3⟩
theorem sound_s {M W : Nat} (ok : TabOk c T) (sc : Scope) : ∀ n s, SS c sc s fun σ => exS T c.N M W sc n σ s
  | 0, s => SS.none.congr fun σ => by simp only [exS]
  | n + 1, s => by
    have IL : ∀ l, SSs c sc l fun σ => exL (exS T c.N M W sc n) l σ := fun l => sss_of (f := fun σ s => exS T c.N M W sc n σ s) fun s _ => sound_s ok sc n s
    cases s with
    | Pass pos => exact ⟨tNext, fun _ _ => ps_pass, fun σp fl h H0 F0 F ad σ H D r k => by simp only [exS] at h; cases h; exact k F ad σ H r⟩
    | Break pos => exact ⟨tBreak, fun _ _ => ps_break, fun σp fl h H0 F0 F ad σ H D r k => by simp only [exS] at h; cases h; exact k F ad σ H r⟩
    | Continue pos => exact ⟨tCont, fun _ _ => ps_continue, fun σp fl h H0 F0 F ad σ H D r k => by simp only [exS] at h; cases h; exact k F ad σ H r⟩
    | Return v pos =>
      cases v with
      | none => exact ⟨tRetN, fun _ _ => ps_retN, fun σp fl h H0 F0 F ad σ H D r k => by simp only [exS] at h; cases h; exact k F H .non r.g (.of .non)⟩
      | some e =>
        obtain ⟨t, a, b⟩ := top_of (M := M) (T.frz pos.line pos.col) ok sc e
        by_cases hn : ∃ x p, e = .Name x p
        · obtain ⟨x, p, rfl⟩ := hn
          by_cases h0 : (okNm x && visB sc x) = true
          · have h0' := h0
            rw [Bool.and_eq_true] at h0'
            obtain ⟨d1, d2⟩ := okNm_d h0'.1
            cases hi : idx c.N x with
            | none => exact SS.none.congr fun σ => by simp only [exS, h0, if_true, hi]
            | some i =>
              refine ⟨tRet (tVar i), fun X x => ps_ret (pe_var (by rw [x.cx.N]; exact idx_get hi) (by rw [x.cx.sc]; exact vis_of h0'.2) d1 d2), fun σp fl q H0 F0 F ad σ H D r k => ?_⟩
              simp only [exS, h0, if_true, hi] at q
              split at q
              · rename_i xs hx
                cases q
                obtain ⟨b1, b2, b3, vs, b4, b5⟩ := r.own i xs hx
                exact ⟨_, b1, k F H _ r.g (.mine b2 b3 b4 b5)⟩
              · rename_i v hv
                cases q
                obtain ⟨u, b1, b2⟩ := r.val i v hv
                exact ⟨u, b1, k F H u r.g (.of b2)⟩
              · cases q
          · exact (ss_ret (g := fun σ => evTop (T.frz pos.line pos.col) c.N (evE T c.N M sc) σ (.Name x p)) a b).congr fun σ => by simp only [exS, h0]; rfl
        · exact (ss_ret (g := fun σ => evTop (T.frz pos.line pos.col) c.N (evE T c.N M sc) σ e) a b).congr fun σ => by
            cases e <;> first | rfl | exact absurd ⟨_, _, rfl⟩ hn
    | Assign ts e pos =>
      obtain ⟨t, a, b⟩ := top_of (M := M) (T.frz pos.line pos.col) ok sc e
      cases ts with
      | nil => exact SS.none.congr fun σ => by rfl
      | cons tg ts =>
        cases ts with
        | cons _ _ =>
          exact SS.none.congr fun σ => by
            cases tg <;> first | rfl | (rename_i v _ _; cases v <;> rfl)
        | nil =>
          cases tg with
          | Name x px =>
            by_cases hc : (isComp e && !(isLC e)) = true
            · exact SS.none.congr fun σ => by simp only [exS, hc, if_true]
            · have plain : ∀ (t : TE), (∀ X, SOk c sc X → PE X e t) → (∀ X, SOk c sc X → swapsWith e (some (.Name x px)) pos.line X.env = pure false) → ∀ X, SOk c sc X → ∀ i, idx c.N x = some i → locB sc x = true → PS X (.Assign [.Name x px] e pos) (tAsg t (gName i)) := fun t h1 h3 X ok' i hi hl =>
                ps_set (by rw [ok'.cx.N]; exact ok.nd) (by rw [ok'.cx.N]; exact idx_get hi) (by rw [ok'.cx.sc]; exact loc_of hl) (h1 X ok') (h3 X ok') (ok'.cx.as x rfl)
              have key : ∀ (m b0 : Bool), SS c sc (.Assign [.Name x px] e pos) fun σ => (evTop b0 c.N (evE T c.N M sc) σ e).bind fun p => (storeN c.N sc x (slotOf p.1 (m && p.2.1)) p.2.2).map .nx := fun m b0 => by
                by_cases hic : isComp e = true
                · cases e with
                  | ListComp elt gens scope p =>
                    obtain ⟨t', a', b'⟩ := sound_lcn ok M sc (fun _ => true) elt gens scope p
                    refine ss_set m (g := fun σ => evTop b0 c.N (evE T c.N M sc) σ (.ListComp elt gens scope p)) ok.nd (fun X x => (a' X x.cx).1) (fun σp y o σp' q => top_ok (e := .ListComp elt gens scope p) (f := evE T c.N M sc) b' q) ?_
                    by_cases hsw : swapB sc x px (.ListComp elt gens scope p) = true
                    · intro X okx i hi hl
                      obtain ⟨l1, l2⟩ := swap_true (spos := pos) okx hsw
                      exact (a' X okx.cx).2 i x px pos (by rw [okx.cx.N]; exact idx_get hi) l1 l2
                    · refine plain t' (fun X x => (a' X x.cx).1) fun X okx => ?_
                      have hk : X.env.blockKind = .function := kind_ok okx
                      have hs : X.env.scope = sc := okx.cx.sc
                      unfold swapB at hsw
                      show (pure _ : Sem Bool) = pure false
                      congr 1
                      have hz : X.env.kindOf x = sc.names.lookup x := by rw [← hs]; rfl
                      rw [hk, hz]
                      simp only [Bool.not_eq_true] at hsw
                      rw [← hsw]
                      by_cases hl : sc.names.lookup x = some .local <;> simp [hl, Expr.pos]
                  | _ => first | (simp [isComp] at hic; done) | (simp [isLC, isComp] at hc; done)
                · obtain ⟨t, a, b⟩ := top_of (M := M) b0 ok sc e
                  exact ss_set m (g := fun σ => evTop b0 c.N (evE T c.N M sc) σ e) ok.nd a b (plain t a fun X okx => swaps_no (by simpa using hic) _ _ _)
              by_cases hf : frE T e = true
              · refine ((key true true).weak (g := fun σ => (ownT (evTop true c.N (evE T c.N M sc) σ e)).bind fun q => (storeN c.N sc x (.own q.1) q.2).map .nx) fun σ fl q => ?_).congr fun σ => by simp only [exS, hc, hf, if_true]; rfl
                obtain ⟨⟨ys, σ1⟩, e1, q⟩ := Option.bind_eq_some_iff.mp q
                rw [ownT_some e1]
                exact q
              · refine (key false (T.frz pos.line pos.col)).congr fun σ => ?_
                simp only [exS, hc, hf, Bool.false_and]
                rfl
          | Tuple ts k pt =>
            by_cases he : ∃ vs k2 p2, e = .Tuple vs k2 p2
            · obtain ⟨vs, k2, p2, rfl⟩ := he
              cases hp : parB sc ts vs with
              | none => exact SS.none.congr fun σ => by simp only [exS, hp, Option.bind_none]
              | some xy =>
                obtain ⟨x, y⟩ := xy
                cases vs with
                | nil => exact SS.none.congr fun σ => by simp only [exS, hp, Option.bind_some]
                | cons e1 vs =>
                  cases vs with
                  | nil => exact SS.none.congr fun σ => by simp only [exS, hp, Option.bind_some]
                  | cons e2 vs =>
                    cases vs with
                    | cons _ _ => exact SS.none.congr fun σ => by simp only [exS, hp, Option.bind_some]
                    | nil =>
                      obtain ⟨t1, a1, b1⟩ := top_of (M := M) (T.frz pos.line pos.col) ok sc e1
                      obtain ⟨t2, a2, b2⟩ := top_of (M := M) (T.frz pos.line pos.col) ok sc e2
                      exact (ss_par (ga := fun σ => evTop (T.frz pos.line pos.col) c.N (evE T c.N M sc) σ e1) (gb := fun σ => evTop (T.frz pos.line pos.col) c.N (evE T c.N M sc) σ e2) ok.nd hp a1 a2 b1 b2).congr fun σ => by simp only [exS, hp, Option.bind_some]
            · by_cases hc : (isTup e || isComp e) = true
              · exact SS.none.congr fun σ => by
                  cases e <;> first | (simp only [exS, hc, if_true]; done) | exact absurd ⟨_, _, _, rfl⟩ he
              · have hc' : isTup e = false ∧ isComp e = false := by simpa using hc
                exact (ss_tup (g := fun σ => evTop (T.frz pos.line pos.col) c.N (evE T c.N M sc) σ e) ok.nd a b hc'.2 hc'.1).congr fun σ => by
                  cases e <;> first | rfl | exact absurd ⟨_, _, _, rfl⟩ he | (simp [isTup, isComp] at hc')
          | Subscript o ie ps =>
            cases o with
            | Name x px =>
              by_cases hc : (isComp e || isSl ie || !(okNm x && visB sc x)) = true
              · exact SS.none.congr fun σ => by simp only [exS, hc, if_true]
              · cases hi : idx c.N x with
                | none =>
                  exact SS.none.congr fun σ => by
                    simp only [exS, hc, hi, Option.bind_none]
                    cases evTop (T.frz pos.line pos.col) c.N (evE T c.N M sc) σ e <;> rfl
                | some i =>
                  have hc' : (isComp e = false ∧ isSl ie = false) ∧ okNm x = true ∧ visB sc x = true := by simpa using hc
                  obtain ⟨t2, a2, b2⟩ := top_of (M := M) (T.frz pos.line pos.col) ok sc ie
                  exact (ss_item (g := fun σ => evTop (T.frz pos.line pos.col) c.N (evE T c.N M sc) σ e) (gi := fun σ => evTop (T.frz pos.line pos.col) c.N (evE T c.N M sc) σ ie) hi hc'.2.1 hc'.2.2 hc'.1.1 hc'.1.2 a b a2 b2).congr fun σ => by
                    simp only [exS, hc, hi, Option.bind_some]
                    rfl
            | _ => exact SS.none.congr fun σ => by rfl
          | _ => exact SS.none.congr fun σ => by rfl
    | Expr e pos =>
      cases e with
      | Call fn args kws cp =>
        cases fn with
        | Attribute o m ap =>
          cases o with
          | Name x px =>
            cases kws with
            | cons _ _ => exact SS.none.congr fun σ => by rfl
            | nil =>
              by_cases h0 : (okNm x && visB sc x && (ap.endLine == cp.line)) = true
              · have h0' := h0
                rw [Bool.and_eq_true, Bool.and_eq_true] at h0'
                cases hi : idx c.N x with
                | none => exact SS.none.congr fun σ => by simp only [exS, h0, hi, Option.bind_none]; rfl
                | some i =>
                  by_cases hm : m = "append"
                  · subst hm
                    cases args with
                    | nil => exact SS.none.congr fun σ => by simp only [exS, h0, hi, Option.bind_some, if_true]; (repeat (any_goals split)) <;> rfl
                    | cons a args =>
                      cases args with
                      | cons _ _ => exact SS.none.congr fun σ => by simp only [exS, h0, hi, Option.bind_some, if_true]; (repeat (any_goals split)) <;> rfl
                      | nil =>
                        obtain ⟨t, a1, b1⟩ := top_of (M := M) (T.frz pos.line pos.col) ok sc a
                        by_cases hs : starB [a] = true
                        · exact SS.none.congr fun σ => by simp only [exS, h0, hi, Option.bind_some, if_true, hs]; (repeat (any_goals split)) <;> rfl
                        · have hs' : starB [a] = false := by simpa using hs
                          exact (ss_append (g := fun σ => evTop (T.frz pos.line pos.col) c.N (evE T c.N M sc) σ a) hi h0'.1.1 h0'.1.2 hs' h0'.2 a1 b1).congr fun σ => by
                            simp only [exS, h0, hi, Option.bind_some, if_true, hs']
                            rfl
                  · by_cases hm2 : m = "pop"
                    · subst hm2
                      cases args with
                      | cons _ _ => exact SS.none.congr fun σ => by simp only [exS, h0, hi, Option.bind_some, if_true, hm, if_false]; (repeat (any_goals split)) <;> rfl
                      | nil =>
                        exact (ss_pop hi h0'.1.1 h0'.1.2 h0'.2).congr fun σ => by
                          simp only [exS, h0, hi, Option.bind_some, if_true, hm, if_false]
                          cases e : σ[i]? with
                          | none => rfl
                          | some s => cases s <;> rfl
                    · exact SS.none.congr fun σ => by simp only [exS, h0, hi, Option.bind_some, hm, hm2, if_false]; (repeat (any_goals split)) <;> rfl
              · exact SS.none.congr fun σ => by simp only [exS, h0]; rfl
          | _ => exact SS.none.congr fun σ => by rfl
        | _ => exact SS.none.congr fun σ => by rfl
      | _ => exact SS.none.congr fun σ => by rfl
    | If e a b pos =>
      obtain ⟨t, a1, b1⟩ := (sound ok M).t sc (fun _ => true) e
      exact (ss_if (cl := T.fgt pos.line pos.col) (f := evT T c.N M sc) (fun X x => a1 X x.cx) b1 (IL a) (IL b)).congr fun σ => by simp only [exS]
    | While e a orelse pos =>
      cases orelse with
      | cons _ _ => exact SS.none.congr fun σ => by rfl
      | nil =>
        obtain ⟨t, a1, b1⟩ := (sound ok M).t sc (fun _ => true) e
        exact (ss_while (cl := T.fgt pos.line pos.col) (f := evT T c.N M sc) (W := W) (fun X x => a1 X x.cx) b1 (IL a)).congr fun σ => by simp only [exS]
    | For tg it a orelse pos =>
      cases orelse with
      | cons _ _ => exact SS.none.congr fun σ => by rfl
      | nil =>
        by_cases hs : ∃ a b p, it = .Set a b p
        · obtain ⟨a', b', p', rfl⟩ := hs
          exact SS.none.congr fun σ => by
            have : ∀ σ, evI T c.N M sc σ (.Set a' b' p') = none := fun σ => by cases M <;> rfl
            simp only [exS, evItr, this, Option.bind_none, ite_self]
        · obtain ⟨wi, a1, b1⟩ := (sound ok M).i sc (fun _ => true) it tg
          exact (ss_for (cl := T.fgt pos.line pos.col) (f := evI T c.N M sc) ok.nd (fold_of fun a b p q => hs ⟨a, b, p, q⟩) (fun X x => a1 X x.cx) b1 (IL a)).congr fun σ => by simp only [exS]
    | _ => exact SS.none.congr fun σ => by rfl
end
end Pv

/-! Part O: defs and programs -/
namespace Pv
open PySem L2 PySem.Spec PyProof.Rows

structure FD where
  N : List Str
  ps : List Str
  sc : Scope
  body : List Stmt
  dfl : List (Nat × List PV)
  kws : List (Nat × List Str) := []
  own : Bool := false
structure Pg where
  defsL : List (Str × FD)
  conL : List (Str × PV)
  fgtL : List ((Nat × Nat) × List (Nat × Bool))
  frzL : List (Nat × Nat)
  M : Nat
  D : Nat
  W : Nat
def Pg.defs (p : Pg) (g : Str) : Option FD := p.defsL.lookup g
def Pg.dfl (p : Pg) (g : Str) (n : Nat) : Option (List PV) := (p.defs g).bind fun fd => fd.dfl.lookup n
def Pg.kwd (p : Pg) (g : Str) (n : Nat) (ks : List Str) : Bool := match p.defs g with
  | some fd => fd.kws.any fun q => q.1 == n && q.2 == ks
  | none => false
def Pg.con (p : Pg) (x : Str) : Option PV := p.conL.lookup x
def Pg.own (p : Pg) (g : Str) : Bool := match p.defs g with
  | some fd => fd.own
  | none => false
def Pg.fgt (p : Pg) (l c : Nat) : List (Nat × Bool) := match p.fgtL.find? fun q => q.1.1 == l && q.1.2 == c with
  | some q => q.2
  | none => []
def Pg.frz (p : Pg) (l c : Nat) : Bool := p.frzL.any fun q => q.1 == l && q.2 == c
def tbOf (p : Pg) (call : Str → List PV → Out) : Tb := ⟨call, p.own, p.dfl, p.kwd, p.con, p.fgt, p.frz⟩
def startF (N : List Str) (xs : List PV) : Fm := xs.map .val ++ List.replicate (N.length - xs.length) .emp
def endF : Option Fl → Out
  | some (.rt x o) => some (x, o)
  | some (.nx _) => some (.non, false)
  | _ => none
def runB (p : Pg) (T : Tb) (fd : FD) (xs : List PV) : Out := if xs.length = fd.ps.length then endF (exL (exS T fd.N p.M p.W fd.sc p.D) fd.body (startF fd.N xs)) else none
def run (p : Pg) : Nat → Str → List PV → Out
  | 0 => fun _ _ => none
  | d + 1 => fun g xs => match p.defs g with
    | none => none
    | some fd => runB p (tbOf p (run p d)) fd xs

/-- a def stands behind the top -/
structure DefOk (K : PySem.W.Frag) (mg : Str → Option Value) (g : Str) (fd : FD) (f : Addr) (fdd : FuncData) : Prop where
  mg : mg g = some (.ref f)
  kp : PySem.W.keepIn K (.ref f) = true
  ex : ∃ (oc : Value) (od : Option Addr) (name qual : Str) (params : Arguments) (dV kV doc pm : Value) (an : Option Addr) (cdv ct : Value) (osl : Array (Option Value)),
    fdd = PySem.W.fnOf name qual params fd.body fd.sc dV kV doc pm an cdv ct ∧ K.lookup f = some ⟨oc, od, .func fdd, osl⟩ ∧ PySem.W.codeIn K cdv qual = true
  scope : FnScope fd.N fd.ps fd.sc
  dfl : ∀ q ∈ fd.dfl, ∃ dvs us, Binds K fdd fd.ps us ∧ Vals dvs us ∧ (∀ F, Reps K F dvs q.2) ∧ q.1 + q.2.length = fd.ps.length
  kwd : ∀ q ∈ fd.kws, ∃ g1 g2, KBn K fdd fd.ps q.1 q.2 g1 g2 ∧ (∀ vs zs, g2 vs zs = vs ++ zs) ∧ q.1 + q.2.length = fd.ps.length
inductive AllOk (K : PySem.W.Frag) (mg : Str → Option Value) : List (Str × FD) → Prop
  | nil : AllOk K mg []
  | cons {g : Str} {fd : FD} {l : List (Str × FD)} {f : Addr} {fdd : FuncData} : DefOk K mg g fd f fdd → AllOk K mg l → AllOk K mg ((g, fd) :: l)
theorem AllOk.mem {K : PySem.W.Frag} {mg : Str → Option Value} : ∀ {l : List (Str × FD)}, AllOk K mg l → ∀ q ∈ l, ∃ f fdd, DefOk K mg q.1 q.2 f fdd
  | _, .nil, q, h => by cases h
  | _, .cons d r, q, h => by
    rcases List.mem_cons.mp h with rfl | h
    · exact ⟨_, _, d⟩
    · exact r.mem q h
structure PgOk (K : PySem.W.Frag) (mg : Str → Option Value) (p : Pg) : Prop where
  defs : AllOk K mg p.defsL
  con : ∀ q ∈ p.conL, ∃ u v, mg q.1 = some u ∧ RelV v u ∧ ∀ F, Rep K F v q.2
  blt : ∀ x ∈ bltNames, mg x = none
  cls : ∀ q ∈ tyNames, mg q.1 = none
theorem PgOk.def {K : PySem.W.Frag} {mg : Str → Option Value} {p : Pg} (ok : PgOk K mg p) {g : Str} {fd : FD} (h : p.defs g = some fd) : ∃ f fdd, DefOk K mg g fd f fdd := ok.defs.mem (g, fd) (PySem.mem_of_lookup h)

theorem memN {α : Type} {n : Nat} {x : α} : ∀ {l : List (Nat × α)}, l.lookup n = some x → (n, x) ∈ l
  | [], h => by cases h
  | (k, v) :: l, h => by
    rw [List.lookup_cons] at h
    by_cases e : n = k
    · subst e
      simp at h
      subst h
      exact List.mem_cons_self
    · have : (n == k) = false := by simpa using e
      rw [this] at h
      exact List.mem_cons_of_mem _ (memN h)
section
variable {P : Program} {w : World} {K : PySem.W.Frag} {mg : Str → Option Value} {p : Pg}
theorem start_vrel {F : Hp} : ∀ {vs : List V} {xs : List PV}, Reps K F vs xs → ∀ (i : Nat) x, (xs.map Slot.val)[i]? = some (.val x) → ∃ v, (vs.map some)[i]? = some (some v) ∧ Rep K F v x := by
  intro vs xs r i x e
  rw [List.getElem?_map] at e
  cases h : xs[i]? with
  | none => simp [h] at e
  | some y =>
    simp only [h, Option.map_some, Option.some.injEq, Slot.val.injEq] at e
    subst e
    obtain ⟨v, h1, h2⟩ := r.get h
    exact ⟨v, by rw [List.getElem?_map, h1]; rfl, h2⟩
theorem start_rel {F H : Hp} {N : List Str} {vs : List V} {xs : List PV} {ad : Nat → Addr} (s : Same F H) (r : Reps K F vs xs) : SRel K H F F ad (startF N xs) (L2.start N vs) H := by
  have hl := r.length
  have get : ∀ (i : Nat) sl, (startF N xs)[i]? = some sl → (∃ x, xs[i]? = some x ∧ sl = .val x) ∨ sl = .emp := fun i sl e => by
    unfold startF at e
    by_cases hi : i < xs.length
    · rw [List.getElem?_append_left (by simpa using hi), List.getElem?_map] at e
      cases h : xs[i]? with
      | none => simp [h] at e
      | some y => simp only [h, Option.map_some, Option.some.injEq] at e; exact .inl ⟨y, rfl, e.symm⟩
    · rw [List.getElem?_append_right (by simpa using hi), List.getElem?_replicate] at e
      split at e
      · cases e; exact .inr rfl
      · cases e
  refine ⟨Grow.refl s |> fun g => ⟨g.f, Same.refl _, s, g.new⟩, ?_, fun i x e => ?_, fun i ys e => ?_, fun i j ys zs e => ?_⟩
  · unfold startF L2.start
    simp only [List.length_append, List.length_map, List.length_replicate, hl]
  · rcases get i _ e with ⟨y, h, q⟩ | q
    · cases q
      obtain ⟨v, h1, h2⟩ := r.get h
      refine ⟨v, ?_, h2⟩
      unfold L2.start
      have hi : i < vs.length := (List.getElem?_eq_some_iff.mp h1).1
      rw [List.getElem?_append_left (by simpa using hi), List.getElem?_map, h1]
      rfl
    · cases q
  · rcases get i _ e with ⟨y, h, q⟩ | q <;> cases q
  · rcases get i _ e with ⟨y, h, q⟩ | q <;> cases q
theorem Grow.self {F H : Hp} (s : Same F H) : Grow F H F H := Grow.refl s
/-- THE THEOREM: every def does what the evaluator says, d calls deep -/
theorem run_ok (ok : PgOk K mg p) : ∀ d base, K.In base → base.Ns mainGlobals mg → ∀ g fd f fdd, p.defs g = some fd → DefOk K mg g fd f fdd → FnOk P w K mg base CX0 d f fdd fd.ps (spOf K fd.ps.length (run p d g))
  | 0, base, _, _, g, fd, f, fdd, hd, D => by
    refine ⟨fun vs H Q E h => h.1, fun A outer s H args us vs Q E hr he hb hv h => ?_⟩
    obtain ⟨_, F, xs, x, own, _, _, h, _⟩ := h
    simp only [run] at h
    cases h
  | d + 1, base, hK, hG, g, fd, f, fdd, hd, D => by
    obtain ⟨oc, od, name, qual, params, dV, kV, doc, pm, an, cdv, ct, osl, rfl, lk, hcd⟩ := D.ex
    have T : TabOk ⟨P, w, K, mg, base, fd.N, d⟩ (tbOf p (run p d)) := by
      refine ⟨fun x q h => ok.con (x, q) (PySem.mem_of_lookup h), fun g2 n ds h => ?_, fun g2 n ks h => ?_, fun x h => ?_, fun x ty h => ok.cls (x, ty) (PySem.mem_of_lookup h), D.scope.nd⟩
      · obtain ⟨fd2, h2, h⟩ := Option.bind_eq_some_iff.mp h
        obtain ⟨f2, fdd2, D2⟩ := ok.def h2
        obtain ⟨dvs, us, b1, b2, b3, b4⟩ := D2.dfl (n, ds) (memN h)
        exact ⟨f2, fdd2, fd2.ps, dvs, us, D2.mg, D2.kp, run_ok ok d base hK hG g2 fd2 f2 fdd2 h2 D2, b1, b2, b3, b4⟩
      · have h : p.kwd g2 n ks = true := h
        unfold Pg.kwd at h
        cases h2 : p.defs g2 with
        | none => rw [h2] at h; cases h
        | some fd2 =>
        rw [h2] at h
        obtain ⟨⟨n', ks'⟩, hq, h⟩ := List.any_eq_true.mp h
        simp only [Bool.and_eq_true, beq_iff_eq] at h
        obtain ⟨rfl, rfl⟩ := h
        obtain ⟨f2, fdd2, D2⟩ := ok.def h2
        obtain ⟨g1, g2', b1, b2, b3⟩ := D2.kwd _ hq
        exact ⟨f2, fdd2, fd2.ps, g1, g2', D2.mg, D2.kp, run_ok ok d base hK hG g2 fd2 f2 fdd2 h2 D2, b1, b2, b3⟩
      · unfold isBlt at h
        obtain ⟨y, hy, e⟩ := List.any_eq_true.mp h
        have e' : y = x := by simpa using e
        subst e'
        exact ok.blt y hy
    refine fn_of lk hcd D.scope (fun vs H Q E h => h.1) fun A outer s H vs Q E hr hsp => ?_
    obtain ⟨hl, F, xs, x, own, sF, rs, hrun, k⟩ := hsp
    simp only [run, hd] at hrun
    unfold runB at hrun
    split at hrun
    · obtain ⟨t, a, b⟩ := sss_of (c := ⟨P, w, K, mg, base, fd.N, d⟩) (sc := fd.sc) (f := fun σ s => exS (tbOf p (run p d)) fd.N p.M p.W fd.sc p.D σ s) (l := fd.body) fun s _ => sound_s (M := p.M) (W := p.W) T fd.sc p.D s
      refine ⟨t, PSs.nox (a _ ⟨⟨rfl, rfl, rfl, rfl, rfl, rfl, rfl, hr, rfl, fun x _ => .inl rfl⟩, PassesOwn.never, D.scope.kind⟩), ?_⟩
      cases e : exL (exS (tbOf p (run p d)) fd.N p.M p.W fd.sc p.D) fd.body (startF fd.N xs) with
      | none => rw [e] at hrun; simp [endF] at hrun
      | some fl =>
        rw [e] at hrun
        refine b _ fl e H F F (fun _ => 0) _ H _ (start_rel sF rs) ?_
        cases fl with
        | rt y o =>
          simp only [endF] at hrun
          cases hrun
          exact fun F' H' v g res => k v F' H' g res
        | nx σ' =>
          simp only [endF] at hrun
          cases hrun
          exact fun F' ad σ H' r => k .non F' H' r.g (.of .non)
        | bk σ' => simp [endF] at hrun
        | ct σ' => simp [endF] at hrun
    · cases hrun
/-- the law's own end -/
theorem law_end (ok : PgOk K mg p) {d : Nat} {base : Heap} (hK : K.In base) (hG : base.Ns mainGlobals mg) {g x : Str} {fd : FD} {f : Addr} {fdd : FuncData} (hd : p.defs g = some fd) (D : DefOk K mg g fd f fdd) (hps : fd.ps = [x]) :
    FnOk P w K mg base CX0 d f fdd [x] (spOf K 1 (run p d g)) := by
  have := run_ok (P := P) (w := w) ok d base hK hG g fd f fdd hd D
  rw [hps] at this
  exact this
theorem law_sp {d : Nat} {g : Str} {H : Hp} {a : Addr} {ns : List Int} (h : run p d g [.lst (ns.map .int)] = some (.bl true, false)) (hS : SqL K H a (ns.map V.int)) : spOf K 1 (run p d g) [.ref a] H (fun v _ => v = .bl true) fun _ _ _ => False := by
  refine ⟨rfl, H, [.lst (ns.map .int)], .bl true, false, Same.refl _, .cons (.lst hS (Reps.ints ns)) .nil, h, fun v F' H' g res => ?_⟩
  unfold Res at res
  rw [if_neg Bool.false_ne_true] at res
  exact res.ofBl
end
end Pv

/-! Part P: the evaluator of statements with what follows handed in; loops over states -/
namespace Pv
open PySem L2

abbrev Kt := Fm → Out
def finK (k kb kc : Kt) : Fl → Out
  | .nx σ => k σ
  | .rt x o => some (x, o)
  | .bk σ => kb σ
  | .ct σ => kc σ
def evTopK (b : Bool) (N : List Str) (f : Sl → PySem.Expr → Out) (σ : Fm) (e : PySem.Expr) (k : PV → Bool → Fm → Out) : Out :=
  if ownAt N σ e then (if b then (f (vis (frzOf N e σ)) e).bind fun p => k p.1 p.2 (frzOf N e σ)
      else (f (thaw σ) e).bind fun p => if p.1.flat then k p.1 false σ else none)
  else (f (vis σ) e).bind fun p => k p.1 p.2 σ
theorem evTopK_eq {b : Bool} {N : List Str} {f : Sl → PySem.Expr → Out} {σ : Fm} {e : PySem.Expr} {k : PV → Bool → Fm → Out} : evTopK b N f σ e k = (evTop b N f σ e).bind fun p => k p.1 p.2.1 p.2.2 := by
  unfold evTopK evTop
  split
  · split
    · rw [Option.bind_assoc]; rfl
    · rw [Option.bind_assoc]
      congr 1
      funext p
      split <;> rfl
  · rw [Option.bind_assoc]; rfl
def ownK (N : List Str) (f : Sl → PySem.Expr → Out) (σ : Fm) (e : PySem.Expr) (k : List PV → Fm → Out) : Out :=
  if ownAt N σ e then (ownO (f (vis (frzOf N e σ)) e)).bind fun ys => k ys (frzOf N e σ)
  else (ownO (f (vis σ) e)).bind fun ys => k ys σ
theorem ownT_map {r : Out} {σ : Fm} {k : List PV → Fm → Out} : (ownT (r.bind fun p => some (p.1, p.2, σ))).bind (fun q => k q.1 q.2) = (ownO r).bind fun ys => k ys σ := by
  cases r with
  | none => rfl
  | some p =>
    obtain ⟨x, o⟩ := p
    cases x <;> cases o <;> rfl
theorem ownK_eq {N : List Str} {f : Sl → PySem.Expr → Out} {σ : Fm} {e : PySem.Expr} {k : List PV → Fm → Out} : ownK N f σ e k = (ownT (evTop true N f σ e)).bind fun q => k q.1 q.2 := by
  unfold ownK evTop
  split
  · rw [if_pos rfl, ownT_map]
  · rw [ownT_map]
def evItrK (N : List Str) (f : Sl → PySem.Expr → Option (List PV)) (σ : Fm) (e : PySem.Expr) (k : List PV → Fm → Out) : Out :=
  if ownAt N σ e then (f (vis (frzOf N e σ)) e).bind fun xs => k xs (frzOf N e σ)
  else (f (vis σ) e).bind fun xs => k xs σ
theorem evItrK_eq {N : List Str} {f : Sl → PySem.Expr → Option (List PV)} {σ : Fm} {e : PySem.Expr} {k : List PV → Fm → Out} : evItrK N f σ e k = (evItr N f σ e).bind fun p => k p.1 p.2 := by
  unfold evItrK evItr
  split <;> (rw [Option.bind_assoc]; rfl)
def stK (N : List Str) (sc : Scope) (x : Str) (s : Slot) (σ : Fm) (k : Kt) : Out := (storeN N sc x s σ).bind k
def forK (cl : Fm → Fm) (bd : PV → Fm → Kt → Out) (body : Fm → Kt → Kt → Kt → Out) (k : Kt) : List PV → Fm → Out
  | [], σ => k σ
  | x :: r, σ => bd x σ fun σ1 => body σ1 (fun σ => forK cl bd body k r (cl σ)) (fun σ => k (cl σ)) (fun σ => forK cl bd body k r (cl σ))
def whK (cl : Fm → Fm) (test : Fm → Option Bool) (body : Fm → Kt → Kt → Kt → Out) (k : Kt) : Nat → Fm → Out
  | 0, _ => none
  | w + 1, σ => (test σ).bind fun b => if b then body σ (fun σ => whK cl test body k w (cl σ)) (fun σ => k (cl σ)) (fun σ => whK cl test body k w (cl σ)) else k σ
def setIx (xs : List PV) (q v : PV) : Option (List PV) := match q with
  | .int k => (ixN xs.length k).map fun j => xs.set j v
  | _ => none
def pushO (xs : List PV) (v : PV) : Option (List PV) := if xs.length < big then some (xs ++ [v]) else none
def popO (ys : List PV) : Option (List PV) := if ys.isEmpty then none else some ys.dropLast
def exLK (f : Fm → Stmt → Kt → Kt → Kt → Out) : List Stmt → Fm → Kt → Kt → Kt → Out
  | [], σ, k, _, _ => k σ
  | s :: r, σ, k, kb, kc => f σ s (fun σ' => exLK f r σ' k kb kc) kb kc
def exK (T : Tb) (N : List Str) (M W : Nat) (sc : Scope) : Nat → Fm → Stmt → Kt → Kt → Kt → Out
  | 0, _, _, _, _, _ => none
  | n + 1, σ, s, k, kb, kc => match s with
    | .Pass _ => k σ
    | .Break _ => kb σ
    | .Continue _ => kc σ
    | .Return none _ => some (.non, false)
    | .Return (some (.Name x p)) pos => if okNm x && visB sc x then (match idx N x with
        | some i => (match σ[i]? with
          | some (.own xs) => some (.lst xs, true)
          | some (.val v) => some (v, false)
          | _ => none)
        | none => none) else evTopK (T.frz pos.line pos.col) N (evE T N M sc) σ (.Name x p) fun x o _ => some (x, o)
    | .Return (some e) pos => evTopK (T.frz pos.line pos.col) N (evE T N M sc) σ e fun x o _ => some (x, o)
    | .Assign [.Name x px] e pos => if isComp e && !(isLC e) then none else
        if frE T e then ownK N (evE T N M sc) σ e fun ys σ => stK N sc x (.own ys) σ k
        else evTopK (T.frz pos.line pos.col) N (evE T N M sc) σ e fun v _ σ => stK N sc x (.val v) σ k
    | .Assign [.Tuple ts _ _] (.Tuple vs _ _) pos => (parB sc ts vs).bind fun xy =>
        (match vs with
        | [a, b] => evTopK (T.frz pos.line pos.col) N (evE T N M sc) σ a fun v _ σ => evTopK (T.frz pos.line pos.col) N (evE T N M sc) σ b fun w _ σ =>
            stK N sc xy.1 (.val v) σ fun σ => stK N sc xy.2 (.val w) σ k
        | _ => none)
    | .Assign [.Tuple ts kk pt] e pos => if isTup e || isComp e then none else
        evTopK (T.frz pos.line pos.col) N (evE T N M sc) σ e fun v _ σ => updTK N sc (fun _ => true) (.Tuple ts kk pt) v fun us => k (appF us σ)
    | .Assign [.Subscript (.Name x _) ie _] e pos => if isComp e || isSl ie || !(okNm x && visB sc x) then none else evTopK (T.frz pos.line pos.col) N (evE T N M sc) σ e fun v _ σ1 => (idx N x).bind fun i =>
        (match σ1[i]? with
        | some (.own _) => evTopK (T.frz pos.line pos.col) N (evE T N M sc) σ1 ie fun q _ σ2 => (match σ2[i]? with
          | some (.own xs) => (setIx xs q v).bind fun ys => k (σ2.set i (.own ys))
          | _ => none)
        | _ => none)
    | .Expr (.Call (.Attribute (.Name x _) m ap) args [] cp) pos => if !(okNm x && visB sc x && (ap.endLine == cp.line)) then none else (idx N x).bind fun i =>
        (match σ[i]? with
        | some (.own ys) => if m = "append" then (match args with
            | [a] => if starB [a] then none else evTopK (T.frz pos.line pos.col) N (evE T N M sc) σ a fun v _ σ1 => (match σ1[i]? with
              | some (.own xs) => (pushO xs v).bind fun ys => k (σ1.set i (.own ys))
              | _ => none)
            | _ => none)
          else if m = "pop" then (match args with
            | [] => (popO ys).bind fun ys => k (σ.set i (.own ys))
            | _ => none)
          else none
        | _ => none)
    | .If c a b pos => (evTst (evT T N M sc) σ c).bind fun t => if t then exLK (exK T N M W sc n) a σ (fun σ => k (clr (T.fgt pos.line pos.col) σ)) kb kc else exLK (exK T N M W sc n) b σ (fun σ => k (clr (T.fgt pos.line pos.col) σ)) kb kc
    | .While c a [] pos => whK (clr (T.fgt pos.line pos.col)) (fun σ => evTst (evT T N M sc) σ c) (fun σ => exLK (exK T N M W sc n) a σ) k W (clr (T.fgt pos.line pos.col) σ)
    | .For tg it a [] pos => evItrK N (evI T N M sc) σ it fun xs σ1 => forK (clr (T.fgt pos.line pos.col)) (fun x σ k => updTK N sc (fun _ => true) tg x fun us => k (appF us σ)) (fun σ => exLK (exK T N M W sc n) a σ) k xs (clr (T.fgt pos.line pos.col) σ1)
    | _ => none

/-! ### the same -/
theorem exLK_eq {f : Fm → Stmt → Kt → Kt → Kt → Out} {g : Fm → Stmt → Option Fl} : ∀ {l : List Stmt}, (∀ s ∈ l, ∀ σ k kb kc, f σ s k kb kc = (g σ s).bind (finK k kb kc)) → ∀ σ k kb kc, exLK f l σ k kb kc = (exL g l σ).bind (finK k kb kc)
  | [], _, σ, k, kb, kc => rfl
  | [s], h, σ, k, kb, kc => h s (List.mem_cons_self ..) σ _ _ _
  | s :: s' :: l, h, σ, k, kb, kc => by
    unfold exLK exL
    rw [h s (List.mem_cons_self ..), Option.bind_assoc]
    congr 1
    funext fl
    cases fl with
    | nx σ' => exact exLK_eq (l := s' :: l) (fun x hx => h x (List.mem_cons_of_mem _ hx)) σ' k kb kc
    | _ => rfl
theorem forK_eq {cl : Fm → Fm} {bd : PV → Fm → Kt → Out} {bd' : PV → Fm → Option Fm} {body : Fm → Kt → Kt → Kt → Out} {body' : Fm → Option Fl} (h : ∀ σ k kb kc, body σ k kb kc = (body' σ).bind (finK k kb kc)) (hb : ∀ x σ k, bd x σ k = (bd' x σ).bind k) (k kb kc : Kt) :
    ∀ xs σ, forK cl bd body k xs σ = (forL cl bd' body' xs σ).bind (finK k kb kc)
  | [], σ => rfl
  | x :: r, σ => by
    unfold forK forL
    rw [hb, Option.bind_assoc]
    congr 1
    funext σ1
    rw [h, Option.bind_assoc]
    congr 1
    funext fl
    cases fl with
    | nx σ' => exact forK_eq h hb k kb kc r (cl σ')
    | ct σ' => exact forK_eq h hb k kb kc r (cl σ')
    | bk σ' => rfl
    | rt x o => rfl
theorem whK_eq {cl : Fm → Fm} {test : Fm → Option Bool} {body : Fm → Kt → Kt → Kt → Out} {body' : Fm → Option Fl} (h : ∀ σ k kb kc, body σ k kb kc = (body' σ).bind (finK k kb kc)) (k kb kc : Kt) :
    ∀ w σ, whK cl test body k w σ = (whL cl test body' w σ).bind (finK k kb kc)
  | 0, σ => rfl
  | w + 1, σ => by
    unfold whK whL
    rw [Option.bind_assoc]
    congr 1
    funext b
    cases b with
    | false => rfl
    | true =>
      simp only [if_true]
      rw [h, Option.bind_assoc]
      congr 1
      funext fl
      cases fl with
      | nx σ' => exact whK_eq h k kb kc w (cl σ')
      | ct σ' => exact whK_eq h k kb kc w (cl σ')
      | bk σ' => rfl
      | rt x o => rfl
theorem exK_eq (T : Tb) (N : List Str) (M W : Nat) (sc : Scope) : ∀ n σ s k kb kc, exK T N M W sc n σ s k kb kc = (exS T N M W sc n σ s).bind (finK k kb kc)
  | 0, σ, s, k, kb, kc => by simp only [exK, exS, Option.bind_none]
  | n + 1, σ, s, k, kb, kc => by
    have IL : ∀ l σ k kb kc, exLK (exK T N M W sc n) l σ k kb kc = (exL (exS T N M W sc n) l σ).bind (finK k kb kc) := fun l σ k kb kc => exLK_eq (fun s _ σ k kb kc => exK_eq T N M W sc n σ s k kb kc) σ k kb kc
    cases s with
    | Pass pos => simp only [exK, exS, Option.bind_some, finK]
    | Break pos => simp only [exK, exS, Option.bind_some, finK]
    | Continue pos => simp only [exK, exS, Option.bind_some, finK]
    | Return v pos =>
      cases v with
      | none => simp only [exK, exS, Option.bind_some, finK]
      | some e =>
        by_cases hn : ∃ x p, e = .Name x p
        · obtain ⟨x, p, rfl⟩ := hn
          simp only [exK, exS]
          by_cases h0 : (okNm x && visB sc x) = true
          · simp only [h0, if_true]
            cases idx N x with
            | none => rfl
            | some i =>
              simp only
              cases σ[i]? with
              | none => rfl
              | some sl => cases sl <;> rfl
          · simp only [h0]
            rw [evTopK_eq]
            show _ = Option.bind (Option.bind _ _) _
            rw [Option.bind_assoc]; rfl
        · have e1 : exK T N M W sc (n + 1) σ (.Return (some e) pos) k kb kc = evTopK (T.frz pos.line pos.col) N (evE T N M sc) σ e fun x o _ => some (x, o) := by
            cases e <;> first | rfl | exact absurd ⟨_, _, rfl⟩ hn
          have e2 : exS T N M W sc (n + 1) σ (.Return (some e) pos) = (evTop (T.frz pos.line pos.col) N (evE T N M sc) σ e).bind fun p => some (.rt p.1 p.2.1) := by
            cases e <;> first | rfl | exact absurd ⟨_, _, rfl⟩ hn
          rw [e1, e2, evTopK_eq, Option.bind_assoc]; rfl
    | Assign ts e pos =>
      cases ts with
      | nil => rfl
      | cons tg ts =>
        cases ts with
        | cons _ _ => cases tg <;> first | rfl | (rename_i v _ _; cases v <;> rfl)
        | nil =>
          cases tg with
          | Name x px =>
            simp only [exK, exS]
            split
            · rfl
            · split
              · rw [ownK_eq, Option.bind_assoc]
                congr 1
                funext q
                unfold stK
                cases storeN N sc x (.own q.1) q.2 <;> rfl
              · rw [evTopK_eq, Option.bind_assoc]
                congr 1
                funext p
                unfold stK
                cases storeN N sc x (.val p.1) p.2.2 <;> rfl
          | Tuple ts kk pt =>
            by_cases he : ∃ vs k2 p2, e = .Tuple vs k2 p2
            · obtain ⟨vs, k2, p2, rfl⟩ := he
              simp only [exK, exS]
              rw [Option.bind_assoc]
              congr 1
              funext xy
              cases vs with
              | nil => rfl
              | cons a vs =>
                cases vs with
                | nil => rfl
                | cons b vs =>
                  cases vs with
                  | cons _ _ => rfl
                  | nil =>
                    simp only
                    rw [evTopK_eq, Option.bind_assoc]
                    congr 1
                    funext p
                    rw [evTopK_eq, Option.bind_assoc]
                    congr 1
                    funext q
                    unfold stK
                    rw [Option.bind_assoc]
                    congr 1
                    funext σ1
                    cases storeN N sc xy.2 (.val q.1) σ1 <;> rfl
            · have e1 : exK T N M W sc (n + 1) σ (.Assign [.Tuple ts kk pt] e pos) k kb kc = if isTup e || isComp e then none else
                  evTopK (T.frz pos.line pos.col) N (evE T N M sc) σ e fun v _ σ => updTK N sc (fun _ => true) (.Tuple ts kk pt) v fun us => k (appF us σ) := by
                cases e <;> first | rfl | exact absurd ⟨_, _, _, rfl⟩ he
              have e2 : exS T N M W sc (n + 1) σ (.Assign [.Tuple ts kk pt] e pos) = if isTup e || isComp e then none else
                  (evTop (T.frz pos.line pos.col) N (evE T N M sc) σ e).bind fun p => (updT N sc (fun _ => true) (.Tuple ts kk pt) p.1).map fun us => .nx (appF us p.2.2) := by
                cases e <;> first | rfl | exact absurd ⟨_, _, _, rfl⟩ he
              rw [e1, e2]
              split
              · rfl
              · rw [evTopK_eq, Option.bind_assoc]
                congr 1
                funext p
                rw [updTK_eq]
                cases updT N sc (fun _ => true) (.Tuple ts kk pt) p.1 <;> rfl
          | Subscript o ie ps =>
            cases o with
            | Name x px =>
              simp only [exK, exS]
              split
              · rfl
              · rw [evTopK_eq, Option.bind_assoc]
                congr 1
                funext p
                rw [Option.bind_assoc]
                congr 1
                funext i
                cases p.2.2[i]? with
                | none => rfl
                | some s =>
                  cases s with
                  | own ys =>
                    simp only
                    rw [evTopK_eq, Option.bind_assoc]
                    congr 1
                    funext q
                    cases q.2.2[i]? with
                    | none => rfl
                    | some s =>
                      cases s with
                      | own xs =>
                        unfold setIx
                        cases q.1 with
                        | int j => cases hx : ixN xs.length j <;> (simp only [hx]; rfl)
                        | _ => rfl
                      | _ => rfl
                  | _ => rfl
            | _ => rfl
          | _ => rfl
    | Expr e pos =>
      cases e with
      | Call fn args kws cp =>
        cases fn with
        | Attribute o m ap =>
          cases o with
          | Name x px =>
            cases kws with
            | cons _ _ => rfl
            | nil =>
              simp only [exK, exS]
              split
              · rfl
              · rw [Option.bind_assoc]
                congr 1
                funext i
                cases hs : σ[i]? with
                | none => rfl
                | some s =>
                  cases s with
                  | own ys =>
                    simp only
                    split
                    · cases args with
                      | nil => rfl
                      | cons a args =>
                        cases args with
                        | cons _ _ => rfl
                        | nil =>
                          simp only
                          split
                          · rfl
                          · rw [evTopK_eq, Option.bind_assoc]
                            congr 1
                            funext p
                            cases p.2.2[i]? with
                            | none => rfl
                            | some s =>
                              cases s with
                              | own xs =>
                                simp only
                                unfold pushO
                                split <;> rfl
                              | _ => rfl
                    · split
                      · cases args with
                        | cons _ _ => rfl
                        | nil =>
                          simp only
                          unfold popO
                          split <;> rfl
                      · rfl
                  | _ => rfl
          | _ => rfl
        | _ => rfl
      | _ => rfl
    | If e a b pos =>
      simp only [exK, exS]
      rw [Option.bind_assoc]
      congr 1
      funext t
      cases t with
      | true =>
        simp only [if_true]
        rw [IL a]
        cases exL (exS T N M W sc n) a σ with
        | none => rfl
        | some fl => cases fl <;> rfl
      | false =>
        simp only [Bool.false_eq_true, if_false]
        rw [IL b]
        cases exL (exS T N M W sc n) b σ with
        | none => rfl
        | some fl => cases fl <;> rfl
    | While e a orelse pos =>
      cases orelse with
      | cons _ _ => rfl
      | nil =>
        simp only [exK, exS]
        exact whK_eq (fun σ k kb kc => IL a σ k kb kc) k kb kc W _
    | For tg it a orelse pos =>
      cases orelse with
      | cons _ _ => rfl
      | nil =>
        simp only [exK, exS]
        rw [evItrK_eq, Option.bind_assoc]
        congr 1
        funext p
        exact forK_eq (fun σ k kb kc => IL a σ k kb kc) (fun x σ k => by rw [updTK_eq]; cases updT N sc (fun _ => true) tg x <;> rfl) k kb kc p.1 _
    | _ => rfl
/-- a whole def -/
def runK (p : Pg) (T : Tb) (fd : FD) (xs : List PV) : Out := if xs.length = fd.ps.length then exLK (exK T fd.N p.M p.W fd.sc p.D) fd.body (startF fd.N xs) (fun _ => some (.non, false)) (fun _ => none) (fun _ => none) else none
theorem runK_eq {p : Pg} {d : Nat} {g : Str} {fd : FD} (h : p.defs g = some fd) (xs : List PV) : run p (d + 1) g xs = runK p (tbOf p (run p d)) fd xs := by
  have e : run p (d + 1) g xs = runB p (tbOf p (run p d)) fd xs := by
    show (match p.defs g with | none => none | some fd => runB p (tbOf p (run p d)) fd xs) = _
    rw [h]
  rw [e]
  generalize tbOf p (run p d) = T
  unfold runB runK
  split
  · rw [exLK_eq fun s _ σ k kb kc => exK_eq _ _ _ _ _ _ σ s k kb kc]
    cases exL (exS T fd.N p.M p.W fd.sc p.D) fd.body (startF fd.N xs) with
    | none => rfl
    | some fl => cases fl <;> rfl
  · rfl

/-! ### loops over states -/
def forC {S : Type} (step : PV → S → (S → Out) → (S → Out) → Out) (k : S → Out) : List PV → S → Out
  | [], s => k s
  | x :: r, s => step x s (fun s => forC step k r s) k
def whC {S : Type} (test : S → Option Bool) (step : S → (S → Out) → (S → Out) → Out) (k : S → Out) : Nat → S → Out
  | 0, _ => none
  | w + 1, s => (test s).bind fun b => if b then step s (fun s => whC test step k w s) k else k s
theorem forK_emb {S : Type} (emb : S → Fm) {step : PV → S → (S → Out) → (S → Out) → Out} {cl : Fm → Fm} {bd : PV → Fm → Kt → Out} {body : Fm → Kt → Kt → Kt → Out} {k : Kt} {k' : S → Out}
    (h : ∀ x s (k1 k2 : Kt), bd x (emb s) (fun σ1 => body σ1 (fun σ => k1 (cl σ)) (fun σ => k2 (cl σ)) (fun σ => k1 (cl σ))) = step x s (fun s => k1 (emb s)) (fun s => k2 (emb s)))
    (hk : ∀ s, k (emb s) = k' s) : ∀ xs s, forK cl bd body k xs (emb s) = forC step k' xs s
  | [], s => hk s
  | x :: r, s => by
    unfold forK forC
    rw [h x s (fun σ => forK cl bd body k r σ) k]
    congr 1
    · funext s
      exact forK_emb emb h hk r s
    · funext s
      exact hk s
theorem whK_emb {S : Type} (emb : S → Fm) {tst : S → Option Bool} {step : S → (S → Out) → (S → Out) → Out} {cl : Fm → Fm} {test : Fm → Option Bool} {body : Fm → Kt → Kt → Kt → Out} {k : Kt} {k' : S → Out}
    (ht : ∀ s, test (emb s) = tst s)
    (h : ∀ s (k1 k2 : Kt), body (emb s) (fun σ => k1 (cl σ)) (fun σ => k2 (cl σ)) (fun σ => k1 (cl σ)) = step s (fun s => k1 (emb s)) (fun s => k2 (emb s)))
    (hk : ∀ s, k (emb s) = k' s) : ∀ w s, whK cl test body k w (emb s) = whC tst step k' w s
  | 0, s => rfl
  | w + 1, s => by
    unfold whK whC
    rw [ht]
    congr 1
    funext b
    cases b with
    | false => exact hk s
    | true =>
      simp only [if_true]
      rw [h s (fun σ => whK cl test body k w σ) k]
      congr 1
      · funext s
        exact whK_emb emb ht h hk w s
      · funext s
        exact hk s

/-! ### pieces of a block -/
theorem runK_pos {p : Pg} {T : Tb} {fd : FD} {xs : List PV} (h : xs.length = fd.ps.length) : runK p T fd xs = exLK (exK T fd.N p.M p.W fd.sc p.D) fd.body (startF fd.N xs) (fun _ => some (.non, false)) (fun _ => none) (fun _ => none) := if_pos h
/-- what is behind, once -/
def jn {S : Type} (R : S → Out) (A : (S → Out) → Out) : Out := A R
theorem exLK_app {f : Fm → Stmt → Kt → Kt → Kt → Out} : ∀ (l r : List Stmt) (σ : Fm) (k kb kc : Kt), exLK f (l ++ r) σ k kb kc = exLK f l σ (fun σ' => exLK f r σ' k kb kc) kb kc
  | [], r, σ, k, kb, kc => rfl
  | s :: l, r, σ, k, kb, kc => by
    show f σ s (fun σ' => exLK f (l ++ r) σ' k kb kc) kb kc = f σ s _ kb kc
    congr 1
    funext σ'
    exact exLK_app l r σ' k kb kc
theorem cut (n : Nat) {S : Type} {f : Fm → Stmt → Kt → Kt → Kt → Out} {l : List Stmt} {σ : Fm} {k kb kc : Kt} {A : (S → Out) → Out} {R : S → Out} (emb : S → Fm)
    (hs : ∀ k1 : Kt, exLK f (l.take n) σ k1 kb kc = A (fun s => k1 (emb s))) (hr : ∀ s, exLK f (l.drop n) (emb s) k kb kc = R s) : exLK f l σ k kb kc = jn R A := by
  have := exLK_app (f := f) (l.take n) (l.drop n) σ k kb kc
  rw [List.take_append_drop] at this
  rw [this, hs]
  unfold jn
  congr 1
  funext s
  exact hr s
theorem bc {α β : Type} {o : Option α} {f g : α → Option β} (h : ∀ x, f x = g x) : Option.bind o f = Option.bind o g := by
  congr 1
  funext x
  exact h x
theorem ic {α : Type} {t : Bool} {a b c d : α} (h1 : a = c) (h2 : b = d) : (if t = true then a else b) = if t = true then c else d := by rw [h1, h2]
theorem forP {T : Tb} {N : List Str} {M W : Nat} {sc : Scope} {n : Nat} {tg it : PySem.Expr} {body : List Stmt} {pos : Pos} {σ : Fm} {k kb kc : Kt} {S : Type} {I : Option (List PV)} {step : PV → S → (S → Out) → (S → Out) → Out} {k' : S → Out}
    (emb : S → Fm) (init : S) (σ1 : Fm) (embx : PV → S → Fm)
    (hI : ∀ K : List PV → Fm → Out, evItrK N (evI T N M sc) σ it K = I.bind fun xs => K xs σ1)
    (he : clr (T.fgt pos.line pos.col) σ1 = emb init)
    (hx : ∀ x s (K : Kt), updTK N sc (fun _ => true) tg x (fun us => K (appF us (emb s))) = K (embx x s))
    (hk : ∀ s, k (emb s) = k' s)
    (h : ∀ x s (k1 k2 : Kt), exLK (exK T N M W sc n) body (embx x s) (fun σ => k1 (clr (T.fgt pos.line pos.col) σ)) (fun σ => k2 (clr (T.fgt pos.line pos.col) σ)) (fun σ => k1 (clr (T.fgt pos.line pos.col) σ)) = step x s (fun s => k1 (emb s)) (fun s => k2 (emb s))) :
    exLK (exK T N M W sc (n + 1)) [.For tg it body [] pos] σ k kb kc = I.bind fun xs => forC step k' xs init := by
  have e : exLK (exK T N M W sc (n + 1)) [.For tg it body [] pos] σ k kb kc = evItrK N (evI T N M sc) σ it fun xs σ1 => forK (clr (T.fgt pos.line pos.col)) (fun x σ k => updTK N sc (fun _ => true) tg x fun us => k (appF us σ)) (fun σ => exLK (exK T N M W sc n) body σ) k xs (clr (T.fgt pos.line pos.col) σ1) := by
    simp only [exLK, exK]
  rw [e, hI]
  congr 1
  funext xs
  show forK _ _ _ _ xs (clr (T.fgt pos.line pos.col) σ1) = _
  rw [he]
  refine forK_emb emb (fun x s k1 k2 => ?_) hk xs init
  show updTK N sc (fun _ => true) tg x (fun us => exLK (exK T N M W sc n) body (appF us (emb s)) (fun σ => k1 (clr (T.fgt pos.line pos.col) σ)) (fun σ => k2 (clr (T.fgt pos.line pos.col) σ)) (fun σ => k1 (clr (T.fgt pos.line pos.col) σ))) = _
  rw [← h x s k1 k2]
  exact hx x s fun σ => exLK (exK T N M W sc n) body σ (fun σ => k1 (clr (T.fgt pos.line pos.col) σ)) (fun σ => k2 (clr (T.fgt pos.line pos.col) σ)) (fun σ => k1 (clr (T.fgt pos.line pos.col) σ))
theorem forPt (m : Nat) {T : Tb} {N : List Str} {M W : Nat} {sc : Scope} {n : Nat} {tg it : PySem.Expr} {body : List Stmt} {pos : Pos} {σ : Fm} {k kb kc : Kt} {S : Type} {I : Option (List PV)} {step : List PV → S → (S → Out) → (S → Out) → Out} {k' : S → Out}
    (emb : S → Fm) (init : S) (σ1 : Fm) (embx : List PV → S → Fm)
    (hI : ∀ K : List PV → Fm → Out, evItrK N (evI T N M sc) σ it K = I.bind fun xs => K xs σ1)
    (he : clr (T.fgt pos.line pos.col) σ1 = emb init)
    (hx : ∀ x s (K : Kt), updTK N sc (fun _ => true) tg x (fun us => K (appF us (emb s))) = (unT m x).bind fun vs => K (embx vs s))
    (hk : ∀ s, k (emb s) = k' s)
    (h : ∀ x s (k1 k2 : Kt), exLK (exK T N M W sc n) body (embx x s) (fun σ => k1 (clr (T.fgt pos.line pos.col) σ)) (fun σ => k2 (clr (T.fgt pos.line pos.col) σ)) (fun σ => k1 (clr (T.fgt pos.line pos.col) σ)) = step x s (fun s => k1 (emb s)) (fun s => k2 (emb s))) :
    exLK (exK T N M W sc (n + 1)) [.For tg it body [] pos] σ k kb kc = I.bind fun xs => forC (fun x s k1 k2 => (unT m x).bind fun vs => step vs s k1 k2) k' xs init := by
  have e : exLK (exK T N M W sc (n + 1)) [.For tg it body [] pos] σ k kb kc = evItrK N (evI T N M sc) σ it fun xs σ1 => forK (clr (T.fgt pos.line pos.col)) (fun x σ k => updTK N sc (fun _ => true) tg x fun us => k (appF us σ)) (fun σ => exLK (exK T N M W sc n) body σ) k xs (clr (T.fgt pos.line pos.col) σ1) := by
    simp only [exLK, exK]
  rw [e, hI]
  congr 1
  funext xs
  show forK _ _ _ _ xs (clr (T.fgt pos.line pos.col) σ1) = _
  rw [he]
  refine forK_emb emb (fun x s k1 k2 => ?_) hk xs init
  have := hx x s fun σ => exLK (exK T N M W sc n) body σ (fun σ => k1 (clr (T.fgt pos.line pos.col) σ)) (fun σ => k2 (clr (T.fgt pos.line pos.col) σ)) (fun σ => k1 (clr (T.fgt pos.line pos.col) σ))
  refine Eq.trans this ?_
  congr 1
  funext vs
  exact h vs s k1 k2
theorem whP {T : Tb} {N : List Str} {M W : Nat} {sc : Scope} {n : Nat} {c : PySem.Expr} {body : List Stmt} {pos : Pos} {σ : Fm} {k kb kc : Kt} {S : Type} {tst : S → Option Bool} {step : S → (S → Out) → (S → Out) → Out} {k' : S → Out}
    (emb : S → Fm) (init : S)
    (he : clr (T.fgt pos.line pos.col) σ = emb init)
    (ht : ∀ s, evTst (evT T N M sc) (emb s) c = tst s)
    (hk : ∀ s, k (emb s) = k' s)
    (h : ∀ s (k1 k2 : Kt), exLK (exK T N M W sc n) body (emb s) (fun σ => k1 (clr (T.fgt pos.line pos.col) σ)) (fun σ => k2 (clr (T.fgt pos.line pos.col) σ)) (fun σ => k1 (clr (T.fgt pos.line pos.col) σ)) = step s (fun s => k1 (emb s)) (fun s => k2 (emb s))) :
    exLK (exK T N M W sc (n + 1)) [.While c body [] pos] σ k kb kc = whC tst step k' W init := by
  show whK _ _ _ _ W (clr (T.fgt pos.line pos.col) σ) = _
  rw [he]
  exact whK_emb emb ht h hk W init
theorem ifP {T : Tb} {N : List Str} {M W : Nat} {sc : Scope} {n : Nat} {c : PySem.Expr} {a b : List Stmt} {pos : Pos} {σ : Fm} {k kb kc : Kt} {tt : Option Bool} {A B : Out}
    (ht : evTst (evT T N M sc) σ c = tt)
    (ha : exLK (exK T N M W sc n) a σ (fun σ => k (clr (T.fgt pos.line pos.col) σ)) kb kc = A)
    (hb : exLK (exK T N M W sc n) b σ (fun σ => k (clr (T.fgt pos.line pos.col) σ)) kb kc = B) :
    exLK (exK T N M W sc (n + 1)) [.If c a b pos] σ k kb kc = tt.bind fun t => if t then A else B := by
  rw [← ht, ← ha, ← hb]
  rfl
/-! ### short names for the mirrors -/
def op2 (op : Operator) (x y : PV) : Out := (binop op x y).bind fun z => sh z.1
def ix (x y : PV) : Out := (getIx x y).bind fun z => sh z.1
def sl (x : PV) (l h : Option Int) : Out := (getSl x l h).bind fun z => sh z.1
def cmpV (op : CmpOp) (x y : PV) : Out := (cmp op x y).bind fun c => sh (.bl c)
def insV (ty : String) (x : PV) : Out := (clsIs ty x).bind fun b => sh (.bl b)
def cl1 (r : Out) : Out := (fstO r).bind fun x => some (x, false)
def cl2 (r : Out) : Out := (ownO r).bind fun ys => some (.lst ys, true)
end Pv

/-! Part Q: what the short names tell; fractions; sizes -/
namespace Pv
open PySem L2

/-! ### steps -/
/-- told by computing, but no rule that simp takes for one that computes -/
theorem nr {α : Type} {a b : α} (h : a = b) : a = b := h
@[simp] theorem ob_some {α β : Type} {x : α} {f : α → Option β} : (some x).bind f = f x := nr rfl
@[simp] theorem om_some {α β : Type} {x : α} {f : α → β} : (some x).map f = some (f x) := nr rfl
@[simp] theorem sh_bind {β : Type} {x : PV} {f : PV × Bool → Option β} : (sh x).bind f = f (x, false) := nr rfl
@[simp] theorem sh_map {β : Type} {x : PV} {f : PV × Bool → β} : (sh x).map f = some (f (x, false)) := nr rfl
theorem sh_some {x : PV} : some (x, false) = sh x := nr rfl
@[simp] theorem cl1_sh {x : PV} : cl1 (sh x) = sh x := nr rfl
@[simp] theorem cl1_some {x : PV} {o : Bool} : cl1 (some (x, o)) = sh x := nr rfl
@[simp] theorem cl2_own {xs : List PV} : cl2 (some (.lst xs, true)) = some (.lst xs, true) := nr rfl
@[simp] theorem ownO_own {xs : List PV} : ownO (some (.lst xs, true)) = some xs := nr rfl
@[simp] theorem jn_def {S : Type} {R : S → Out} {A : (S → Out) → Out} : jn R A = A R := nr rfl
@[simp] theorem op2_add {i j : Int} : op2 .Add (.int i) (.int j) = sh (.int (i + j)) := nr rfl
@[simp] theorem op2_sub {i j : Int} : op2 .Sub (.int i) (.int j) = sh (.int (i - j)) := nr rfl
theorem op2_mul {i j : Int} (h : mulOk i j = true) : op2 .Mult (.int i) (.int j) = sh (.int (i * j)) := by
  show (if mulOk i j then sh (.int (i * j)) else none).bind (fun z => sh z.1) = _
  rw [if_pos h]
  rfl
theorem op2_div {i j : Int} (h : divOk j = true) : op2 .FloorDiv (.int i) (.int j) = sh (.int (i.fdiv j)) := by
  show (if divOk j then sh (.int (i.fdiv j)) else none).bind (fun z => sh z.1) = _
  rw [if_pos h]
  rfl
theorem op2_mod {i j : Int} (h : j ≠ 0) : op2 .Mod (.int i) (.int j) = sh (.int (i.fmod j)) := by
  show (if j = 0 then none else sh (.int (i.fmod j))).bind (fun z => sh z.1) = _
  rw [if_neg h]
  rfl
@[simp] theorem op2_mods {i j : Int} (h : 0 < j) : op2 .Mod (.int i) (.int j) = sh (.int (i % j)) := by
  rw [op2_mod (by omega), Int.fmod_eq_emod_of_nonneg _ (by omega)]
theorem op2_divs {i j : Int} (h : 0 < j) (h2 : j < 2 ^ 64) : op2 .FloorDiv (.int i) (.int j) = sh (.int (i / j)) := by
  rw [op2_div, Int.fdiv_eq_ediv_of_nonneg _ (by omega)]
  unfold divOk
  simp only [Bool.and_eq_true, decide_eq_true_eq]
  refine ⟨by omega, ?_⟩
  have : j.natAbs < 2 ^ 64 := by omega
  have := (Nat.log2_lt (n := j.natAbs) (k := 64) (by omega)).mpr this
  omega
@[simp] theorem cmp_lt {i j : Int} : cmp .Lt (.int i) (.int j) = some (decide (i < j)) := nr rfl
@[simp] theorem cmp_le {i j : Int} : cmp .LtE (.int i) (.int j) = some (decide (i ≤ j)) := nr rfl
@[simp] theorem cmp_gt {i j : Int} : cmp .Gt (.int i) (.int j) = some (decide (j < i)) := nr rfl
@[simp] theorem cmp_ge {i j : Int} : cmp .GtE (.int i) (.int j) = some (decide (j ≤ i)) := nr rfl
@[simp] theorem cmpV_def {op : CmpOp} {x y : PV} : cmpV op x y = (cmp op x y).bind fun c => sh (.bl c) := nr rfl
@[simp] theorem eqD_int {i j : Int} : eqD (.int i) (.int j) = some (decide (i = j)) := by
  unfold eqD
  rw [if_pos (by rfl)]
  simp only [PV.toD, PyData.eqv]
  rfl
@[simp] theorem cmp_eq {x y : PV} : cmp .Eq x y = eqD x y := by cases x <;> cases y <;> rfl
@[simp] theorem cmp_ne {x y : PV} : cmp .NotEq x y = (eqD x y).map (!·) := by cases x <;> cases y <;> rfl
@[simp] theorem truth_bl {b : Bool} : truth (.bl b) = some b := nr rfl
@[simp] theorem truth_int {i : Int} : truth (.int i) = some (i != 0) := nr rfl
@[simp] theorem truth_lst {xs : List PV} : truth (.lst xs) = some (!xs.isEmpty) := nr rfl
@[simp] theorem truth_tup {xs : List PV} : truth (.tup xs) = some (!xs.isEmpty) := nr rfl
@[simp] theorem truth_non : truth .non = some false := nr rfl
@[simp] theorem blOf_bl {b : Bool} : blOf (.bl b) = some b := nr rfl
@[simp] theorem neg1_int {i : Int} : neg1 (.int i) = sh (.int (-i)) := nr rfl
@[simp] theorem not1_bl {b : Bool} : not1 (.bl b) = sh (.bl (!b)) := nr rfl
theorem k_int_int : kitB "int" "int" = some true := by decide +kernel
theorem k_bool_int : kitB "bool" "int" = some true := by decide +kernel
theorem k_int_bool : kitB "int" "bool" = some false := by decide +kernel
theorem k_bool_bool : kitB "bool" "bool" = some true := by decide +kernel
theorem k_tup_tup : kitB "tuple" "tuple" = some true := by decide +kernel
theorem k_lst_lst : kitB "list" "list" = some true := by decide +kernel
theorem k_tup_lst : kitB "tuple" "list" = some false := by decide +kernel
theorem k_lst_tup : kitB "list" "tuple" = some false := by decide +kernel
theorem k_int_tup : kitB "int" "tuple" = some false := by decide +kernel
theorem k_int_lst : kitB "int" "list" = some false := by decide +kernel
theorem k_non_tup : kitB "NoneType" "tuple" = some false := by decide +kernel
theorem k_non_int : kitB "NoneType" "int" = some false := by decide +kernel
@[simp] theorem ins_ii {i : Int} : insV "int" (.int i) = sh (.bl true) := by simp only [insV, clsIs, k_int_int]; rfl
@[simp] theorem ins_bi {i : Bool} : insV "int" (.bl i) = sh (.bl true) := by simp only [insV, clsIs, k_bool_int]; rfl
@[simp] theorem ins_ib {i : Int} : insV "bool" (.int i) = sh (.bl false) := by simp only [insV, clsIs, k_int_bool]; rfl
@[simp] theorem ins_bb {i : Bool} : insV "bool" (.bl i) = sh (.bl true) := by simp only [insV, clsIs, k_bool_bool]; rfl
@[simp] theorem ins_tt {x : List PV} : insV "tuple" (.tup x) = sh (.bl true) := by simp only [insV, clsIs, k_tup_tup]; rfl
@[simp] theorem ins_ll {x : List PV} : insV "list" (.lst x) = sh (.bl true) := by simp only [insV, clsIs, k_lst_lst]; rfl
@[simp] theorem ins_tl {x : List PV} : insV "list" (.tup x) = sh (.bl false) := by simp only [insV, clsIs, k_tup_lst]; rfl
@[simp] theorem ins_lt {x : List PV} : insV "tuple" (.lst x) = sh (.bl false) := by simp only [insV, clsIs, k_lst_tup]; rfl
@[simp] theorem ins_nt : insV "tuple" .non = sh (.bl false) := by simp only [insV, clsIs, k_non_tup]; rfl
@[simp] theorem len_lst {xs : List PV} : bltV "len" [.lst xs] = sh (.int xs.length) := nr rfl
@[simp] theorem len_tup {xs : List PV} : bltV "len" [.tup xs] = sh (.int xs.length) := nr rfl
@[simp] theorem abs_int {i : Int} : bltV "abs" [.int i] = sh (.int i.natAbs) := by
  show sh (.int (if i < 0 then -i else i)) = _
  congr 2
  omega
@[simp] theorem int_int {i : Int} : bltV "int" [.int i] = sh (.int i) := nr rfl
@[simp] theorem list_lst {xs : List PV} : bltV "list" [.lst xs] = some (.lst xs, true) := nr rfl
@[simp] theorem list_tup {xs : List PV} : bltV "list" [.tup xs] = some (.lst xs, true) := nr rfl
@[simp] theorem tuple_lst {xs : List PV} : bltV "tuple" [.lst xs] = sh (.tup xs) := nr rfl
@[simp] theorem tuple_tup {xs : List PV} : bltV "tuple" [.tup xs] = sh (.tup xs) := nr rfl
theorem atI_nat {xs : List PV} {i : Nat} {x : PV} (h : xs[i]? = some x) : atI xs i = some x := by
  have hl : i < xs.length := (List.getElem?_eq_some_iff.mp h).1
  unfold atI ixN
  rw [if_pos (by omega), if_pos (by omega)]
  exact h
theorem ixL {xs : List PV} {i : Nat} {x : PV} (h : xs[i]? = some x) : ix (.lst xs) (.int i) = sh x := by
  show (((atI xs i).bind sh).bind fun z => sh z.1) = _
  rw [atI_nat h]
  rfl
theorem ixT {xs : List PV} {i : Nat} {x : PV} (h : xs[i]? = some x) : ix (.tup xs) (.int i) = sh x := by
  show (((atI xs i).bind sh).bind fun z => sh z.1) = _
  rw [atI_nat h]
  rfl
@[simp] theorem ix_t0 {a : PV} {l : List PV} : ix (.tup (a :: l)) (.int 0) = sh a := ixT (i := 0) rfl
@[simp] theorem ix_l0 {a : PV} {l : List PV} : ix (.lst (a :: l)) (.int 0) = sh a := ixL (i := 0) rfl
@[simp] theorem ix_t1 {a b : PV} {l : List PV} : ix (.tup (a :: b :: l)) (.int 1) = sh b := ixT (i := 1) rfl
@[simp] theorem ix_l1 {a b : PV} {l : List PV} : ix (.lst (a :: b :: l)) (.int 1) = sh b := ixL (i := 1) rfl
@[simp] theorem ix_t2 {a b c : PV} {l : List PV} : ix (.tup (a :: b :: c :: l)) (.int 2) = sh c := ixT (i := 2) rfl
@[simp] theorem ix_l2 {a b c : PV} {l : List PV} : ix (.lst (a :: b :: c :: l)) (.int 2) = sh c := ixL (i := 2) rfl
@[simp] theorem getD0 {a : PV} {l : List PV} : (a :: l).getD 0 .non = a := nr rfl
@[simp] theorem unT2 {a b : PV} : unT 2 (.tup [a, b]) = some [a, b] := nr rfl
@[simp] theorem unT3 {a b c : PV} : unT 3 (.tup [a, b, c]) = some [a, b, c] := nr rfl

/-! ### lists by a function -/
def rl (n : Nat) (g : Nat → PV) : List PV := (List.range n).map g
@[simp] theorem rl_len {n : Nat} {g : Nat → PV} : (rl n g).length = n := by simp [rl]
theorem rl_get {n i : Nat} {g : Nat → PV} (h : i < n) : (rl n g)[i]? = some (g i) := by simp [rl, h]
@[simp] theorem rl_zero {g : Nat → PV} : rl 0 g = [] := nr rfl
theorem rl_succ {n : Nat} {g : Nat → PV} : rl n g ++ [g n] = rl (n + 1) g := by simp [rl, List.range_succ]
theorem rl_congr {n : Nat} {f g : Nat → PV} (h : ∀ k < n, f k = g k) : rl n f = rl n g := by
  unfold rl
  exact List.map_congr_left fun k hk => h k (List.mem_range.mp hk)
theorem ix_rlL {n : Nat} {g : Nat → PV} {i : Nat} (h : i < n) : ix (.lst (rl n g)) (.int i) = sh (g i) := ixL (rl_get h)
theorem ix_rlT {n : Nat} {g : Nat → PV} {i : Nat} (h : i < n) : ix (.tup (rl n g)) (.int i) = sh (g i) := ixT (rl_get h)
theorem ix_rlI {n : Nat} {g : Nat → PV} {i : Int} (h : 0 ≤ i) (h2 : i < n) : ix (.lst (rl n g)) (.int i) = sh (g i.toNat) := by
  obtain ⟨k, rfl⟩ := Int.eq_ofNat_of_zero_le h
  exact ix_rlL (by omega)
theorem pushO_ok {xs : List PV} {v : PV} (h : xs.length < 1000000) : pushO xs v = some (xs ++ [v]) := by
  exact if_pos h
theorem push_rl {n : Nat} {g : Nat → PV} {v : PV} (h : n < 1000000) (hv : v = g n) : pushO (rl n g) v = some (rl (n + 1) g) := by
  rw [pushO_ok (by simpa using h), hv, rl_succ]
theorem seqOf_lst {xs : List PV} (h : xs.length ≤ 1000000) : seqOf (.lst xs) = some xs := by
  exact if_pos h
theorem seqOf_tup {xs : List PV} (h : xs.length ≤ 1000000) : seqOf (.tup xs) = some xs := by
  exact if_pos h
theorem rng1_ok {n : Nat} (h : n ≤ 1000000) : rng1 (.int n) = some (intsFrom 0 n) := by
  show (if small62 n && decide ((n : Int).toNat ≤ big) then some (intsFrom 0 (n : Int).toNat) else none) = _
  rw [if_pos]
  · rfl
  · unfold small62
    simp only [Bool.and_eq_true, decide_eq_true_eq]
    refine ⟨⟨?_, ?_⟩, ?_⟩
    · omega
    · omega
    · show n ≤ 1000000
      exact h
theorem intsFrom_eq : ∀ (n : Nat) (lo : Int), intsFrom lo n = (List.range n).map fun k : Nat => PV.int (lo + k)
  | 0, lo => rfl
  | n + 1, lo => by
    rw [List.range_succ_eq_map]
    simp only [intsFrom, List.map_cons, List.map_map, intsFrom_eq n (lo + 1)]
    congr 1
    · simp
    · refine List.map_congr_left fun k _ => ?_
      simp only [Function.comp]
      congr 1
      omega
theorem ints0 {n : Nat} : intsFrom 0 n = rl n fun k : Nat => .int k := by
  rw [intsFrom_eq]
  unfold rl
  simp
theorem forC_list {S : Type} {step : PV → S → (S → Out) → (S → Out) → Out} {K : S → Out} {α : Type} (em : α → PV) (nx : α → S → S) : ∀ (xs : List α) (s : S),
    (∀ x ∈ xs, ∀ s kn kb, step (em x) s kn kb = kn (nx x s)) → forC step K (xs.map em) s = K (xs.foldl (fun s x => nx x s) s)
  | [], s, h => rfl
  | x :: xs, s, h => by
    show step (em x) s (fun s => forC step K (xs.map em) s) K = _
    rw [h x (List.mem_cons_self ..)]
    exact forC_list em nx xs (nx x s) fun y hy => h y (List.mem_cons_of_mem _ hy)
/-- a loop over range(n) whose state behind k turns is known -/
theorem forC_from {S : Type} {step : PV → S → (S → Out) → (S → Out) → Out} {K : S → Out} (inv : Nat → S) : ∀ (n lo : Nat),
    (∀ k, lo ≤ k → k < lo + n → ∀ kn kb, step (.int k) (inv k) kn kb = kn (inv (k + 1))) → forC step K (intsFrom lo n) (inv lo) = K (inv (lo + n))
  | 0, lo, h => rfl
  | n + 1, lo, h => by
    show step (.int lo) (inv lo) (fun s => forC step K (intsFrom ((lo : Int) + 1) n) s) K = _
    rw [h lo (Nat.le_refl _) (by omega)]
    have := forC_from (step := step) (K := K) inv n (lo + 1) fun k a b => h k (by omega) (by omega)
    rw [show ((lo : Int) + 1) = ((lo + 1 : Nat) : Int) by omega, this]
    congr 2
    omega
theorem forC_rng {S : Type} {step : PV → S → (S → Out) → (S → Out) → Out} {K : S → Out} {s0 : S} (n : Nat) (inv : Nat → S) (h0 : s0 = inv 0)
    (h : ∀ k, k < n → ∀ kn kb, step (.int k) (inv k) kn kb = kn (inv (k + 1))) : forC step K (intsFrom 0 n) s0 = K (inv n) := by
  have := forC_from (step := step) (K := K) inv n 0 fun k _ b => h k (by omega)
  rw [h0]
  simpa using this
/-- .. that may be left with an answer of its own: all turns pass, or the answer is there -/
theorem compM_rl {step : PV → Option (Option PV)} {em : Nat → PV} {g : Nat → PV} (n : Nat) (h : ∀ k < n, step (em k) = some (some (g k))) : compM step (rl n em) = some (rl n g) := by
  unfold rl
  have : ∀ (l : List Nat), (∀ k ∈ l, step (em k) = some (some (g k))) → compM step (l.map em) = some (l.map g) := by
    intro l
    induction l with
    | nil => intro _; rfl
    | cons x l ih =>
      intro hl
      simp only [List.map_cons, compM]
      rw [hl x (List.mem_cons_self ..), ih fun k hk => hl k (List.mem_cons_of_mem _ hk)]
      rfl
  exact this _ fun k hk => h k (List.mem_range.mp hk)
theorem compM_map {α : Type} {step : PV → Option (Option PV)} {em : α → PV} {g : α → PV} : ∀ (l : List α), (∀ x ∈ l, step (em x) = some (some (g x))) → compM step (l.map em) = some (l.map g)
  | [], _ => rfl
  | x :: l, h => by
    simp only [List.map_cons, compM]
    rw [h x (List.mem_cons_self ..), compM_map l fun k hk => h k (List.mem_cons_of_mem _ hk)]
    rfl

/-! ### equality of what is alike -/
mutual
def PV.pl : PV → Bool
  | .non => true | .bl _ => false | .int _ => true | .str _ => false
  | .tup xs => PV.pls xs
  | .lst xs => PV.pls xs
def PV.pls : List PV → Bool
  | [] => true
  | x :: xs => PV.pl x && PV.pls xs
end
mutual
def PV.dp : PV → Nat
  | .tup xs => PV.dps xs + 1
  | .lst xs => PV.dps xs + 1
  | _ => 0
def PV.dps : List PV → Nat
  | [] => 0
  | x :: xs => max (PV.dp x) (PV.dps xs)
end
mutual
theorem lay_pl : ∀ x : PV, x.pl = true → x.toD.canLay0 = true ∧ x.toD.depth = x.dp
  | .non, _ => ⟨by simp [PV.toD, PyData.canLay0], by simp [PV.toD, PyData.depth, PV.dp]⟩
  | .int _, _ => ⟨by simp [PV.toD, PyData.canLay0], by simp [PV.toD, PyData.depth, PV.dp]⟩
  | .tup xs, h => by
    have := lay_pls xs (by simpa [PV.pl] using h)
    exact ⟨by simp [PV.toD, PyData.canLay0, this.1], by simp [PV.toD, PyData.depth, PV.dp, this.2]⟩
  | .lst xs, h => by
    have := lay_pls xs (by simpa [PV.pl] using h)
    exact ⟨by simp [PV.toD, PyData.canLay0, this.1], by simp [PV.toD, PyData.depth, PV.dp, this.2]⟩
  | .bl _, h => by simp [PV.pl] at h
  | .str _, h => by simp [PV.pl] at h
theorem lay_pls : ∀ xs : List PV, PV.pls xs = true → PyData.canLayAll0 (PV.toDs xs) = true ∧ PyData.depthAll (PV.toDs xs) = PV.dps xs
  | [], _ => ⟨by simp [PV.toDs, PyData.canLayAll0], by simp [PV.toDs, PyData.depthAll, PV.dps]⟩
  | x :: xs, h => by
    have h' : x.pl = true ∧ PV.pls xs = true := by simpa [PV.pls] using h
    have h1 := lay_pl x h'.1
    have h2 := lay_pls xs h'.2
    exact ⟨by simp [PV.toDs, PyData.canLayAll0, h1.1, h2.1], by simp [PV.toDs, PyData.depthAll, PV.dps, h1.2, h2.2]⟩
end
mutual
theorem eqv_pl : ∀ x y : PV, x.pl = true → y.pl = true → (PyData.eqv x.toD y.toD = true ↔ x = y)
  | .non, y, _, hy => by cases y <;> simp [PV.toD, PyData.eqv, PV.pl] at hy ⊢
  | .int i, y, _, hy => by cases y <;> simp [PV.toD, PyData.eqv, PV.pl] at hy ⊢
  | .tup xs, y, hx, hy => by
    cases y with
    | tup ys =>
      have := eqv_pls xs ys (by simpa [PV.pl] using hx) (by simpa [PV.pl] using hy)
      simp [PV.toD, PyData.eqv, this]
    | _ => simp [PV.toD, PyData.eqv, PV.pl] at hy ⊢
  | .lst xs, y, hx, hy => by
    cases y with
    | lst ys =>
      have := eqv_pls xs ys (by simpa [PV.pl] using hx) (by simpa [PV.pl] using hy)
      simp [PV.toD, PyData.eqv, this]
    | _ => simp [PV.toD, PyData.eqv, PV.pl] at hy ⊢
  | .bl _, _, h, _ => by simp [PV.pl] at h
  | .str _, _, h, _ => by simp [PV.pl] at h
theorem eqv_pls : ∀ xs ys : List PV, PV.pls xs = true → PV.pls ys = true → (PyData.eqvAll (PV.toDs xs) (PV.toDs ys) = true ↔ xs = ys)
  | [], ys, _, _ => by cases ys <;> simp [PV.toDs, PyData.eqvAll]
  | x :: xs, ys, hx, hy => by
    cases ys with
    | nil => simp [PV.toDs, PyData.eqvAll]
    | cons y ys =>
      have hx' : x.pl = true ∧ PV.pls xs = true := by simpa [PV.pls] using hx
      have hy' : y.pl = true ∧ PV.pls ys = true := by simpa [PV.pls] using hy
      have h1 := eqv_pl x y hx'.1 hy'.1
      have h2 := eqv_pls xs ys hx'.2 hy'.2
      simp [PV.toDs, PyData.eqvAll, h1, h2]
end
open Classical in
theorem eqD_pl {x y : PV} (hx : x.pl = true) (hy : y.pl = true) (dx : x.dp ≤ 64) (dy : y.dp ≤ 64) : eqD x y = some (decide (x = y)) := by
  unfold eqD
  obtain ⟨a1, a2⟩ := lay_pl x hx
  obtain ⟨b1, b2⟩ := lay_pl y hy
  rw [if_pos]
  · congr 1
    rw [Bool.eq_iff_iff, eqv_pl x y hx hy]
    simp
  · unfold SeqAt.shaped
    rw [a1, b1, a2, b2]
    simp [dx, dy]
theorem eqD_self {x : PV} (hx : x.pl = true) (dx : x.dp ≤ 64) : eqD x x = some true := by
  rw [eqD_pl hx hx dx dx]
  simp
theorem pls_all {xs : List PV} : PV.pls xs = true ↔ ∀ x ∈ xs, x.pl = true := by
  induction xs with
  | nil => simp [PV.pls]
  | cons x xs ih => simp [PV.pls, ih]
theorem dps_le {xs : List PV} {n : Nat} : PV.dps xs ≤ n ↔ ∀ x ∈ xs, x.dp ≤ n := by
  induction xs with
  | nil => simp [PV.dps]
  | cons x xs ih => simp only [PV.dps, List.mem_cons, forall_eq_or_imp, ← ih]; omega
end Pv

/-! Part R: fractions, their sizes, Euclid -/
namespace Pv
open PySem L2

/-! ### sizes -/
def nb (n : Nat) : Nat := n.log2 + 1
theorem lt_nb (n : Nat) : n < 2 ^ nb n := Nat.lt_log2_self
theorem nb_pos (n : Nat) : 0 < nb n := Nat.succ_pos _
theorem nb_le {n k : Nat} (h : n < 2 ^ k) (hk : 0 < k) : nb n ≤ k := by
  unfold nb
  by_cases h0 : n = 0
  · subst h0
    have : Nat.log2 0 = 0 := by decide
    omega
  · have := (Nat.log2_lt (k := k) h0).mpr h
    omega
theorem nb_mono {a b : Nat} (h : a ≤ b) : nb a ≤ nb b := nb_le (Nat.lt_of_le_of_lt h (lt_nb b)) (nb_pos b)
theorem nb_mul (a b : Nat) : nb (a * b) ≤ nb a + nb b := by
  refine nb_le ?_ (by have := nb_pos a; omega)
  rw [Nat.pow_add]
  have h1 := lt_nb a
  have h2 := lt_nb b
  exact Nat.lt_of_le_of_lt (Nat.mul_le_mul_left a (Nat.le_of_lt h2)) (Nat.mul_lt_mul_of_pos_right h1 (Nat.two_pow_pos _))
theorem nb_add (a b : Nat) : nb (a + b) ≤ max (nb a) (nb b) + 1 := by
  refine nb_le ?_ (by omega)
  rw [Nat.pow_succ]
  have h1 := lt_nb a
  have h2 := lt_nb b
  have h3 : 2 ^ nb a ≤ 2 ^ max (nb a) (nb b) := Nat.pow_le_pow_right (by omega) (by omega)
  have h4 : 2 ^ nb b ≤ 2 ^ max (nb a) (nb b) := Nat.pow_le_pow_right (by omega) (by omega)
  omega
theorem mulOk_nb {i j : Int} (h : nb i.natAbs + nb j.natAbs ≤ 1000000) : mulOk i j = true := by
  unfold nb at h
  unfold mulOk
  simp only [decide_eq_true_eq]
  omega
theorem divOk_nb {j : Int} (h0 : j ≠ 0) (h : nb j.natAbs ≤ 9000) : divOk j = true := by
  unfold nb at h
  unfold divOk
  simp only [Bool.and_eq_true, decide_eq_true_eq]
  exact ⟨h0, by omega⟩
def bz (q : Rat) : Nat := max (nb q.num.natAbs) (nb q.den)
theorem bz_num (q : Rat) : nb q.num.natAbs ≤ bz q := Nat.le_max_left ..
theorem bz_den (q : Rat) : nb q.den ≤ bz q := Nat.le_max_right ..
theorem bz_divInt {n d : Int} {k : Nat} (hn : nb n.natAbs ≤ k) (hd : nb d.natAbs ≤ k) : bz (Rat.divInt n d) ≤ k := by
  have hk : 0 < k := Nat.lt_of_lt_of_le (nb_pos _) hn
  unfold bz
  rw [Rat.num_divInt, Rat.den_divInt]
  refine Nat.max_le.mpr ⟨Nat.le_trans (nb_mono ?_) hn, ?_⟩
  · rw [Int.natAbs_ediv_of_dvd]
    · rw [Int.natAbs_mul]
      refine Nat.le_trans (Nat.div_le_self _ _) ?_
      have : d.sign.natAbs ≤ 1 := by
        rcases Int.lt_trichotomy d 0 with h | h | h
        · rw [Int.sign_eq_neg_one_of_neg h]; decide
        · rw [h]; decide
        · rw [Int.sign_eq_one_of_pos h]; decide
      calc d.sign.natAbs * n.natAbs ≤ 1 * n.natAbs := Nat.mul_le_mul_right _ this
        _ = n.natAbs := Nat.one_mul _
    · exact Int.dvd_mul_of_dvd_right (Int.gcd_dvd_right ..)
  · split
    · exact nb_le (Nat.one_lt_two_pow (by omega)) hk
    · exact Nat.le_trans (nb_mono (Nat.div_le_self _ _)) hd
theorem add_divInt (x y : Rat) : x + y = Rat.divInt (x.num * y.den + y.num * x.den) (x.den * y.den) := by
  have h1 : (x.den : Int) ≠ 0 := by have := x.den_nz; omega
  have h2 : (y.den : Int) ≠ 0 := by have := y.den_nz; omega
  have := Rat.divInt_add_divInt x.num y.num h1 h2
  rw [Rat.num_divInt_den, Rat.num_divInt_den] at this
  exact this
theorem mul_divInt (x y : Rat) : x * y = Rat.divInt (x.num * y.num) (x.den * y.den) := by
  have := Rat.divInt_mul_divInt x.num y.num (d₁ := x.den) (d₂ := y.den)
  rw [Rat.num_divInt_den, Rat.num_divInt_den] at this
  exact this
theorem sub_divInt (x y : Rat) : x - y = Rat.divInt (x.num * y.den - y.num * x.den) (x.den * y.den) := by
  have := add_divInt x (-y)
  rw [show x - y = x + -y from Rat.sub_eq_add_neg .., this]
  have h1 : (-y).num = - y.num := rfl
  have h2 : (-y).den = y.den := rfl
  rw [h1, h2]
  congr 1
  rw [Int.neg_mul]
  omega
theorem nb_mulI (a b : Int) : nb (a * b).natAbs ≤ nb a.natAbs + nb b.natAbs := by rw [Int.natAbs_mul]; exact nb_mul ..
theorem nb_addI (a b : Int) : nb (a + b).natAbs ≤ max (nb a.natAbs) (nb b.natAbs) + 1 := Nat.le_trans (nb_mono (Int.natAbs_add_le ..)) (nb_add ..)
theorem nb_subI (a b : Int) : nb (a - b).natAbs ≤ max (nb a.natAbs) (nb b.natAbs) + 1 := Nat.le_trans (nb_mono (Int.natAbs_sub_le ..)) (nb_add ..)
theorem bz_add (x y : Rat) : bz (x + y) ≤ bz x + bz y + 1 := by
  rw [add_divInt]
  have a1 := bz_num x
  have a2 := bz_den x
  have b1 := bz_num y
  have b2 := bz_den y
  refine bz_divInt ?_ ?_
  · refine Nat.le_trans (nb_addI ..) ?_
    have := nb_mulI x.num y.den
    have := nb_mulI y.num x.den
    simp only [Int.natAbs_natCast] at *
    omega
  · refine Nat.le_trans (nb_mulI ..) ?_
    simp only [Int.natAbs_natCast] at *
    omega
theorem bz_sub (x y : Rat) : bz (x - y) ≤ bz x + bz y + 1 := by
  rw [sub_divInt]
  have a1 := bz_num x
  have a2 := bz_den x
  have b1 := bz_num y
  have b2 := bz_den y
  refine bz_divInt ?_ ?_
  · refine Nat.le_trans (nb_subI ..) ?_
    have := nb_mulI x.num y.den
    have := nb_mulI y.num x.den
    simp only [Int.natAbs_natCast] at *
    omega
  · refine Nat.le_trans (nb_mulI ..) ?_
    simp only [Int.natAbs_natCast] at *
    omega
theorem bz_mul (x y : Rat) : bz (x * y) ≤ bz x + bz y := by
  rw [mul_divInt]
  have a1 := bz_num x
  have a2 := bz_den x
  have b1 := bz_num y
  have b2 := bz_den y
  refine bz_divInt ?_ ?_
  · refine Nat.le_trans (nb_mulI ..) ?_
    omega
  · refine Nat.le_trans (nb_mulI ..) ?_
    simp only [Int.natAbs_natCast] at *
    omega
theorem bz_neg (x : Rat) : bz (-x) = bz x := by
  unfold bz
  have h1 : (-x).num = - x.num := rfl
  have h2 : (-x).den = x.den := rfl
  rw [h1, h2, Int.natAbs_neg]

/-! ### Euclid -/
theorem gcd_step (a b : Nat) : Nat.gcd b (a % b) = Nat.gcd a b := by rw [Nat.gcd_comm, ← Nat.gcd_rec, Nat.gcd_comm]
theorem mod_half {a b k : Nat} (hb : b < 2 ^ (k + 1)) (h : a % b ≠ 0) (h0 : b ≠ 0) : b % (a % b) < 2 ^ k := by
  have h1 : a % b < b := Nat.mod_lt _ (by omega)
  have h2 : b % (a % b) < a % b := Nat.mod_lt _ (by omega)
  have h3 := Nat.div_add_mod b (a % b)
  have h4 : 1 ≤ b / (a % b) := (Nat.one_le_div_iff (by omega)).mpr (by omega)
  have h5 : a % b * 1 ≤ a % b * (b / (a % b)) := Nat.mul_le_mul_left _ h4
  rw [Nat.pow_succ] at hb
  omega
theorem euclid_wh {test : PV × PV → Option Bool} {step : PV × PV → (PV × PV → Out) → (PV × PV → Out) → Out} {K : PV × PV → Out}
    (ht : ∀ a b : Nat, test (.int a, .int b) = some (decide (b ≠ 0))) (hs : ∀ a b : Nat, b ≠ 0 → ∀ kn kb, step (.int a, .int b) kn kb = kn (.int b, .int (a % b : Nat))) :
    ∀ (k a b w : Nat), b < 2 ^ k → 2 * k + 1 ≤ w → whC test step K w (.int a, .int b) = K (.int (Nat.gcd a b), .int (0 : Nat))
  | 0, a, b, w, hb, hw => by
    obtain ⟨w, rfl⟩ : ∃ v, w = v + 1 := ⟨w - 1, by omega⟩
    have : b = 0 := by simp at hb; exact hb
    subst this
    unfold whC
    rw [ht]
    simp
  | k + 1, a, b, w, hb, hw => by
    obtain ⟨w, rfl⟩ : ∃ v, w = v + 1 := ⟨w - 1, by omega⟩
    unfold whC
    rw [ht]
    by_cases h0 : b = 0
    · subst h0; simp
    · simp only [ne_eq, h0, not_false_eq_true, decide_true, ob_some, if_true]
      rw [hs a b h0]
      show whC test step K w (.int b, .int (a % b : Nat)) = _
      obtain ⟨w, rfl⟩ : ∃ v, w = v + 1 := ⟨w - 1, by omega⟩
      unfold whC
      rw [ht]
      by_cases h1 : a % b = 0
      · rw [h1, ← gcd_step a b, h1]; simp
      · simp only [ne_eq, h1, not_false_eq_true, decide_true, ob_some, if_true]
        rw [hs b (a % b) h1]
        show whC test step K w (.int (a % b : Nat), .int (b % (a % b) : Nat)) = _
        rw [euclid_wh ht hs k (a % b) (b % (a % b)) w (mod_half hb h1 h0) (by omega), gcd_step, gcd_step]
theorem euclid_for {step : PV → PV × PV → (PV × PV → Out) → (PV × PV → Out) → Out} {K : PV × PV → Out}
    (h0 : ∀ x (a : Nat) kn kb, step x (.int a, .int (0 : Nat)) kn kb = kb (.int a, .int (0 : Nat))) (hs : ∀ x (a b : Nat), b ≠ 0 → ∀ kn kb, step x (.int a, .int b) kn kb = kn (.int b, .int (a % b : Nat))) :
    ∀ (k a b n : Nat) (lo : Int), b < 2 ^ k → 2 * k + 1 ≤ n → forC step K (intsFrom lo n) (.int a, .int b) = K (.int (Nat.gcd a b), .int (0 : Nat))
  | 0, a, b, n, lo, hb, hn => by
    obtain ⟨n, rfl⟩ : ∃ v, n = v + 1 := ⟨n - 1, by omega⟩
    have : b = 0 := by simp at hb; exact hb
    subst this
    unfold intsFrom forC
    rw [h0]
    simp
  | k + 1, a, b, n, lo, hb, hn => by
    obtain ⟨n, rfl⟩ : ∃ v, n = v + 1 := ⟨n - 1, by omega⟩
    unfold intsFrom forC
    by_cases hb0 : b = 0
    · subst hb0
      rw [h0]
      simp
    · rw [hs _ a b hb0]
      show forC step K (intsFrom (lo + 1) n) (.int b, .int (a % b : Nat)) = _
      obtain ⟨n, rfl⟩ : ∃ v, n = v + 1 := ⟨n - 1, by omega⟩
      unfold intsFrom forC
      by_cases h1 : a % b = 0
      · rw [h1, h0, ← gcd_step a b, h1]; simp
      · rw [hs _ b (a % b) h1]
        show forC step K (intsFrom (lo + 1 + 1) n) (.int (a % b : Nat), .int (b % (a % b) : Nat)) = _
        rw [euclid_for h0 hs k (a % b) (b % (a % b)) n _ (mod_half hb h1 hb0) (by omega), gcd_step, gcd_step]

/-! ### fractions -/
def fr (q : Rat) : PV := .tup [.int q.num, .int q.den]
@[simp] theorem fr0 {q : Rat} : ix (fr q) (.int 0) = sh (.int q.num) := ix_t0
@[simp] theorem fr1 {q : Rat} : ix (fr q) (.int 1) = sh (.int q.den) := ix_t1
theorem fr_inj {x y : Rat} : fr x = fr y ↔ x = y := by
  constructor
  · intro h
    unfold fr at h
    simp only [PV.tup.injEq, List.cons.injEq, PV.int.injEq, Int.natCast_inj, and_true] at h
    exact Rat.ext h.1 h.2
  · rintro rfl; rfl
@[simp] theorem fr_pl {x : Rat} : (fr x).pl = true := by simp [fr, PV.pl, PV.pls]
@[simp] theorem fr_dp {x : Rat} : (fr x).dp = 1 := by simp [fr, PV.dp, PV.dps]
theorem fr_flat {x : Rat} : (fr x).flat = true := by simp [fr, PV.flat, PV.flats]
@[simp] theorem eqD_fr {x y : Rat} : eqD (fr x) (fr y) = some (decide (x = y)) := by
  rw [eqD_pl fr_pl fr_pl (by simp) (by simp)]
  congr 1
  simp [fr_inj]
theorem divInt_parts {n d : Int} {s : Int} (hd : d ≠ 0) (hs : s = if d < 0 then -(Int.gcd n d : Int) else (Int.gcd n d : Int)) : n.fdiv s = (Rat.divInt n d).num ∧ d.fdiv s = (Rat.divInt n d).den := by
  have hg : (Int.gcd n d : Int) ≠ 0 := by
    intro h
    have : Int.gcd n d = 0 := by omega
    exact hd (Int.gcd_eq_zero_iff.mp this).2
  have hg0 : (0 : Int) < Int.gcd n d := by omega
  obtain ⟨n', hn⟩ := Int.gcd_dvd_left (a := n) (b := d)
  obtain ⟨d', hd'⟩ := Int.gcd_dvd_right (a := n) (b := d)
  rw [Rat.num_divInt, Rat.den_divInt, if_neg hd, Int.gcd_comm d n]
  generalize hG : (Int.gcd n d : Nat) = g at *
  by_cases hneg : d < 0
  · rw [if_pos hneg] at hs
    subst hs
    have hd'neg : d' < 0 := by
      rcases Int.lt_or_le d' 0 with h | h
      · exact h
      · have : 0 ≤ (g : Int) * d' := Int.mul_nonneg (by omega) h
        omega
    rw [Int.sign_eq_neg_one_of_neg hneg]
    constructor
    · rw [hn, show (g : Int) * n' = (-(g : Int)) * (-n') by rw [Int.neg_mul_neg], Int.mul_fdiv_cancel_left _ (by omega), show -1 * (-(g : Int) * -n') = (g : Int) * (-n') by rw [Int.neg_mul_neg, Int.neg_one_mul, Int.mul_neg], Int.mul_ediv_cancel_left _ hg]
    · have e : d.natAbs / g = d'.natAbs := by rw [hd', Int.natAbs_mul, Int.natAbs_natCast]; exact Nat.mul_div_cancel_left _ (by omega)
      rw [e]
      conv => lhs; rw [hd', show (g : Int) * d' = (-(g : Int)) * (-d') by rw [Int.neg_mul_neg]]
      rw [Int.mul_fdiv_cancel_left _ (by omega)]
      omega
  · rw [if_neg hneg] at hs
    subst hs
    have hd'pos : 0 ≤ d' := by
      rcases Int.lt_or_le d' 0 with h | h
      · have : (g : Int) * d' < 0 := Int.mul_neg_of_pos_of_neg hg0 h
        omega
      · exact h
    rw [Int.sign_eq_one_of_pos (by omega)]
    constructor
    · rw [hn, Int.mul_fdiv_cancel_left _ hg, Int.one_mul, Int.mul_ediv_cancel_left _ hg]
    · have e : d.natAbs / g = d'.natAbs := by rw [hd', Int.natAbs_mul, Int.natAbs_natCast]; exact Nat.mul_div_cancel_left _ (by omega)
      rw [e]
      conv => lhs; rw [hd']
      rw [Int.mul_fdiv_cancel_left _ hg]
      omega
end Pv

/-! Part T: the numbers' defs, by their mirrors -/
namespace Pv
open PySem L2
def mm_common (C : Str → List PV → Out) (v_a v_b : PV) : Out :=
  jn (fun (s2 : PV × PV) => jn (fun (s6 : PV × PV) => some (s6.1, false)) fun j5 => whC (fun (s7 : PV × PV) => cmp .Gt s7.2 (.int 0)) (fun (s7 : PV × PV) k9 k10 => (op2 .Mod s7.1 s7.2).bind fun p11 => k9 (s7.2, p11.1)) (fun (s12 : PV × PV) => j5 (s12.1, s12.2)) 100000 (s2.1, s2.2)) fun j1 => (bltV "abs" [v_a]).bind fun p3 => (bltV "abs" [v_b]).bind fun p4 => j1 (p3.1, p4.1)
def mm_fraction (C : Str → List PV → Out) (v_number v_divisor : PV) : Out :=
  jn (fun (s2 : PV) => jn (fun (s6 : PV) => (((op2 .FloorDiv v_number s6).bind fun p10 => ((op2 .FloorDiv v_divisor s6).bind fun p9 => some [p9.1]).map fun q11 => p10.1 :: q11).bind fun q12 => sh (.tup q12)).bind fun p13 => some (p13.1, p13.2)) fun j5 => (cmp .Lt v_divisor (.int 0)).bind fun t8 => if t8 then (neg1 s2).bind fun p7 => j5 p7.1 else j5 s2) fun j1 => (cmp .Eq v_divisor (.int 0)).bind fun t3 => if t3 then none else (cl1 (C "common" [v_number, v_divisor])).bind fun p4 => j1 p4.1
def mm_plus (C : Str → List PV → Out) (v_a v_b : PV) : Out :=
  (((((ix v_a (.int 0)).bind fun p1 => (ix v_b (.int 1)).bind fun p2 => op2 .Mult p1.1 p2.1).bind fun p3 => ((ix v_b (.int 0)).bind fun p4 => (ix v_a (.int 1)).bind fun p5 => op2 .Mult p4.1 p5.1).bind fun p6 => op2 .Add p3.1 p6.1).bind fun p10 => (((ix v_a (.int 1)).bind fun p7 => (ix v_b (.int 1)).bind fun p8 => op2 .Mult p7.1 p8.1).bind fun p9 => some [p9.1]).map fun q11 => p10.1 :: q11).bind fun q12 => cl1 (C "fraction" (q12 ++ []))).bind fun p13 => some (p13.1, p13.2)
def mm_minus (C : Str → List PV → Out) (v_a v_b : PV) : Out :=
  (((((ix v_a (.int 0)).bind fun p1 => (ix v_b (.int 1)).bind fun p2 => op2 .Mult p1.1 p2.1).bind fun p3 => ((ix v_b (.int 0)).bind fun p4 => (ix v_a (.int 1)).bind fun p5 => op2 .Mult p4.1 p5.1).bind fun p6 => op2 .Sub p3.1 p6.1).bind fun p10 => (((ix v_a (.int 1)).bind fun p7 => (ix v_b (.int 1)).bind fun p8 => op2 .Mult p7.1 p8.1).bind fun p9 => some [p9.1]).map fun q11 => p10.1 :: q11).bind fun q12 => cl1 (C "fraction" (q12 ++ []))).bind fun p13 => some (p13.1, p13.2)
def mm_times (C : Str → List PV → Out) (v_a v_b : PV) : Out :=
  ((((ix v_a (.int 0)).bind fun p1 => (ix v_b (.int 0)).bind fun p2 => op2 .Mult p1.1 p2.1).bind fun p6 => (((ix v_a (.int 1)).bind fun p3 => (ix v_b (.int 1)).bind fun p4 => op2 .Mult p3.1 p4.1).bind fun p5 => some [p5.1]).map fun q7 => p6.1 :: q7).bind fun q8 => cl1 (C "fraction" (q8 ++ []))).bind fun p9 => some (p9.1, p9.2)
def mm_less (C : Str → List PV → Out) (v_a v_b : PV) : Out :=
  (((ix v_a (.int 0)).bind fun p1 => (ix v_b (.int 1)).bind fun p2 => op2 .Mult p1.1 p2.1).bind fun p3 => ((ix v_b (.int 0)).bind fun p4 => (ix v_a (.int 1)).bind fun p5 => op2 .Mult p4.1 p5.1).bind fun p6 => cmpV .Lt p3.1 p6.1).bind fun p7 => some (p7.1, p7.2)
def mm_sign (C : Str → List PV → Out) (v_a : PV) : Out :=
  ((ix v_a (.int 0)).bind fun p4 => cmp .Lt p4.1 (.int 0)).bind fun t1 => if t1 then sh (.int (-1)) else ((ix v_a (.int 0)).bind fun p3 => cmp .Gt p3.1 (.int 0)).bind fun t2 => if t2 then sh (.int 1) else sh (.int 0)
def mm_bare (C : Str → List PV → Out) (v_a : PV) : Out :=
  (((((ix v_a (.int 0)).bind fun p1 => some [p1.1]).bind fun q2 => bltV "abs" q2).bind fun p4 => ((ix v_a (.int 1)).bind fun p3 => some [p3.1]).map fun q5 => p4.1 :: q5).bind fun q6 => sh (.tup q6)).bind fun p7 => some (p7.1, p7.2)
def mm__law_is_integer (C : Str → List PV → Out) (v_actual : PV) : Out :=
  ((insV "int" v_actual).bind fun p2 => (blOf p2.1).bind fun b1 => if b1 then (insV "bool" v_actual).bind fun p3 => not1 p3.1 else sh (.bl false)).bind fun p4 => some (p4.1, p4.2)
def mm__law_is_truth (C : Str → List PV → Out) (v_actual v_due : PV) : Out :=
  ((insV "bool" v_actual).bind fun p2 => (blOf p2.1).bind fun b1 => if b1 then cmpV .Eq v_actual v_due else sh (.bl false)).bind fun p3 => some (p3.1, p3.2)
def mm__law_cell (C : Str → List PV → Out) (v_script v_k : PV) : Out :=
  ((bltV "len" [v_script]).bind fun p7 => cmp .Lt v_k p7.1).bind fun t1 => if t1 then (((((ix v_script v_k).bind fun p2 => some [p2.1]).bind fun q3 => bltV "int" q3).bind fun p4 => some [p4.1]).bind fun q5 => bltV "abs" q5).bind fun p6 => some (p6.1, p6.2) else sh (.int 0)
def mm__law_row (C : Str → List PV → Out) (v_cell v_size v_base : PV) : Out :=
  jn (fun (s2 : List PV × PV) => jn (fun (s4 : List PV × PV) => some (.lst s4.1, true)) fun j3 => (rng1 v_size).bind fun xs55 => forC (fun x31 (s5 : List PV × PV) k29 k30 => ((op2 .Pow (.int 10) (.int 18)).bind fun p53 => cmp .GtE v_cell p53.1).bind fun t52 => if t52 then ((bltV "int" [s5.2]).bind fun p32 => op2 .Mod p32.1 v_base).bind fun p33 => (pushO s5.1 p33.1).bind fun ys34 => (op2 .FloorDiv s5.2 v_base).bind fun p35 => k29 (ys34, p35.1) else ((((((bltV "int" [v_cell]).bind fun p36 => op2 .Mod p36.1 (.int 1000003)).bind fun p37 => op2 .Mult p37.1 (.int 48271)).bind fun p38 => (op2 .Mult x31 (.int 69621)).bind fun p39 => op2 .Add p38.1 p39.1).bind fun p40 => (op2 .FloorDiv v_cell (.int 1000003)).bind fun p41 => op2 .Add p40.1 p41.1).bind fun p42 => op2 .Mod p42.1 (.int 2147483647)).bind fun p43 => ((((op2 .Mult p43.1 (.int 16807)).bind fun p44 => (op2 .Mult x31 (.int 12345)).bind fun p45 => op2 .Add p44.1 p45.1).bind fun p46 => op2 .Add p46.1 (.int 99991)).bind fun p47 => op2 .Mod p47.1 (.int 2147483629)).bind fun p48 => ((op2 .FloorDiv p48.1 (.int 7)).bind fun p49 => op2 .Mod p49.1 v_base).bind fun p50 => (pushO s5.1 p50.1).bind fun ys51 => k29 (ys51, s5.2)) (fun (s54 : List PV × PV) => j3 (s54.1, s54.2)) xs55 (s2.1, s2.2)) fun j1 => j1 ([], v_cell)
def mm__law_fraction (C : Str → List PV → Out) (v_number v_divisor : PV) : Out :=
  jn (fun (s2 : PV × PV) => jn (fun (s6 : PV × PV) => jn (fun (s19 : PV) => (((op2 .FloorDiv v_number s19).bind fun p23 => ((op2 .FloorDiv v_divisor s19).bind fun p22 => some [p22.1]).map fun q24 => p23.1 :: q24).bind fun q25 => sh (.tup q25)).bind fun p26 => some (p26.1, p26.2)) fun j18 => (cmp .Lt v_divisor (.int 0)).bind fun t21 => if t21 then (neg1 s6.1).bind fun p20 => j18 p20.1 else j18 s6.1) fun j5 => (rng1 (.int 10000)).bind fun xs17 => forC (fun x13 (s7 : PV × PV) k11 k12 => (cmp .Eq s7.2 (.int 0)).bind fun t14 => if t14 then k12 (s7.1, s7.2) else (op2 .Mod s7.1 s7.2).bind fun p15 => k11 (s7.2, p15.1)) (fun (s16 : PV × PV) => j5 (s16.1, s16.2)) xs17 (s2.1, s2.2)) fun j1 => (bltV "abs" [v_number]).bind fun p3 => (bltV "abs" [v_divisor]).bind fun p4 => j1 (p3.1, p4.1)
def mm__law_plus (C : Str → List PV → Out) (v_a v_b : PV) : Out :=
  (((((ix v_a (.int 0)).bind fun p1 => (ix v_b (.int 1)).bind fun p2 => op2 .Mult p1.1 p2.1).bind fun p3 => ((ix v_b (.int 0)).bind fun p4 => (ix v_a (.int 1)).bind fun p5 => op2 .Mult p4.1 p5.1).bind fun p6 => op2 .Add p3.1 p6.1).bind fun p10 => (((ix v_a (.int 1)).bind fun p7 => (ix v_b (.int 1)).bind fun p8 => op2 .Mult p7.1 p8.1).bind fun p9 => some [p9.1]).map fun q11 => p10.1 :: q11).bind fun q12 => cl1 (C "_law_fraction" (q12 ++ []))).bind fun p13 => some (p13.1, p13.2)
def mm__law_minus (C : Str → List PV → Out) (v_a v_b : PV) : Out :=
  (((((ix v_a (.int 0)).bind fun p1 => (ix v_b (.int 1)).bind fun p2 => op2 .Mult p1.1 p2.1).bind fun p3 => ((ix v_b (.int 0)).bind fun p4 => (ix v_a (.int 1)).bind fun p5 => op2 .Mult p4.1 p5.1).bind fun p6 => op2 .Sub p3.1 p6.1).bind fun p10 => (((ix v_a (.int 1)).bind fun p7 => (ix v_b (.int 1)).bind fun p8 => op2 .Mult p7.1 p8.1).bind fun p9 => some [p9.1]).map fun q11 => p10.1 :: q11).bind fun q12 => cl1 (C "_law_fraction" (q12 ++ []))).bind fun p13 => some (p13.1, p13.2)
def mm__law_times (C : Str → List PV → Out) (v_a v_b : PV) : Out :=
  ((((ix v_a (.int 0)).bind fun p1 => (ix v_b (.int 0)).bind fun p2 => op2 .Mult p1.1 p2.1).bind fun p6 => (((ix v_a (.int 1)).bind fun p3 => (ix v_b (.int 1)).bind fun p4 => op2 .Mult p3.1 p4.1).bind fun p5 => some [p5.1]).map fun q7 => p6.1 :: q7).bind fun q8 => cl1 (C "_law_fraction" (q8 ++ []))).bind fun p9 => some (p9.1, p9.2)
def mm__law_bare (C : Str → List PV → Out) (v_a : PV) : Out :=
  (((((ix v_a (.int 0)).bind fun p1 => some [p1.1]).bind fun q2 => bltV "abs" q2).bind fun p4 => ((ix v_a (.int 1)).bind fun p3 => some [p3.1]).map fun q5 => p4.1 :: q5).bind fun q6 => sh (.tup q6)).bind fun p7 => some (p7.1, p7.2)
def mm__law_before (C : Str → List PV → Out) (v_a v_b : PV) : Out :=
  (((ix v_a (.int 0)).bind fun p1 => (ix v_b (.int 1)).bind fun p2 => op2 .Mult p1.1 p2.1).bind fun p3 => ((ix v_b (.int 0)).bind fun p4 => (ix v_a (.int 1)).bind fun p5 => op2 .Mult p4.1 p5.1).bind fun p6 => cmpV .Lt p3.1 p6.1).bind fun p7 => some (p7.1, p7.2)
def mm__law_is_fraction (C : Str → List PV → Out) (v_actual : PV) : Out :=
  ((((insV "tuple" v_actual).bind fun p21 => truth p21.1).map fun b20 => !b20).bind fun b22 => if b22 then some true else (bltV "len" [v_actual]).bind fun p23 => cmp .NotEq p23.1 (.int 2)).bind fun t1 => if t1 then sh (.bl false) else ((((((ix v_actual (.int 0)).bind fun p10 => some [p10.1]).bind fun q11 => cl1 (C "_law_is_integer" (q11 ++ []))).bind fun p12 => truth p12.1).map fun b9 => !b9).bind fun b13 => if b13 then some true else (((((ix v_actual (.int 1)).bind fun p15 => some [p15.1]).bind fun q16 => cl1 (C "_law_is_integer" (q16 ++ []))).bind fun p17 => truth p17.1).map fun b14 => !b14).bind fun b18 => if b18 then some true else (ix v_actual (.int 1)).bind fun p19 => cmp .Lt p19.1 (.int 1)).bind fun t2 => if t2 then sh (.bl false) else ((((ix v_actual (.int 0)).bind fun p4 => ((ix v_actual (.int 1)).bind fun p3 => some [p3.1]).map fun q5 => p4.1 :: q5).bind fun q6 => cl1 (C "_law_fraction" (q6 ++ []))).bind fun p7 => cmpV .Eq v_actual p7.1).bind fun p8 => some (p8.1, p8.2)
abbrev Cl := Str → List PV → Out
def S_common (C : Cl) : Prop := ∀ a b : Int, nb b.natAbs ≤ 9000 → C "common" [.int a, .int b] = sh (.int (Int.gcd a b))
def S_fraction (C : Cl) : Prop := ∀ n d : Int, d ≠ 0 → nb d.natAbs ≤ 9000 → C "fraction" [.int n, .int d] = sh (fr (Rat.divInt n d))
def S_lfraction (C : Cl) : Prop := ∀ n d : Int, d ≠ 0 → nb d.natAbs ≤ 4900 → C "_law_fraction" [.int n, .int d] = sh (fr (Rat.divInt n d))
def S_add (C : Cl) (f : Str) : Prop := ∀ x y : Rat, bz x + bz y ≤ 4900 → C f [fr x, fr y] = sh (fr (x + y))
def S_sub (C : Cl) (f : Str) : Prop := ∀ x y : Rat, bz x + bz y ≤ 4900 → C f [fr x, fr y] = sh (fr (x - y))
def S_mul (C : Cl) (f : Str) : Prop := ∀ x y : Rat, bz x + bz y ≤ 4900 → C f [fr x, fr y] = sh (fr (x * y))
def S_lt (C : Cl) (f : Str) : Prop := ∀ x y : Rat, bz x + bz y ≤ 4900 → C f [fr x, fr y] = sh (.bl (decide (x < y)))

theorem s_common (C : Cl) (a b : Int) (h : nb b.natAbs ≤ 9000) : mm_common C (.int a) (.int b) = sh (.int (Int.gcd a b)) := by
  unfold mm_common
  simp only [abs_int, sh_bind, jn_def]
  obtain ⟨w, hw⟩ : ∃ w : Nat, w = 100000 := ⟨_, rfl⟩
  rw [← hw]
  rw [euclid_wh (fun a b => by simp [Int.natCast_pos, Nat.pos_iff_ne_zero]) (fun a b h0 kn kb => by simp only []; rw [op2_mods (by omega), sh_bind]; rfl) 9000 a.natAbs b.natAbs w
    (Nat.lt_of_lt_of_le (lt_nb _) (Nat.pow_le_pow_right (by omega) h)) (by omega)]
  rfl
theorem s_frac {n d : Int} (hd : d ≠ 0) (h : nb d.natAbs ≤ 9000) {s : Int} (hs : s = if d < 0 then -(Int.gcd n d : Int) else (Int.gcd n d : Int)) :
    op2 .FloorDiv (.int n) (.int s) = sh (.int (Rat.divInt n d).num) ∧ op2 .FloorDiv (.int d) (.int s) = sh (.int (Rat.divInt n d).den) := by
  have hg : Int.gcd n d ≠ 0 := fun h => hd (Int.gcd_eq_zero_iff.mp h).2
  have hle : Int.gcd n d ≤ d.natAbs := Nat.le_of_dvd (by omega) (Int.ofNat_dvd_left.mp (Int.gcd_dvd_right ..))
  have hok : divOk s = true := by
    refine divOk_nb ?_ (Nat.le_trans (nb_mono ?_) h)
    · subst hs; split <;> omega
    · subst hs; split <;> omega
  obtain ⟨h1, h2⟩ := divInt_parts hd hs
  exact ⟨by rw [op2_div hok, h1], by rw [op2_div hok, h2]⟩
theorem s_fraction {C : Cl} (hc : S_common C) (n d : Int) (hd : d ≠ 0) (h : nb d.natAbs ≤ 9000) : mm_fraction C (.int n) (.int d) = sh (fr (Rat.divInt n d)) := by
  unfold mm_fraction
  simp only [cmp_eq, eqD_int, hd, decide_false, ob_some, Bool.false_eq_true, if_false, hc n d h, cl1_sh, sh_bind, jn_def, cmp_lt, neg1_int]
  by_cases hneg : d < 0
  · obtain ⟨h1, h2⟩ := s_frac (n := n) hd h (s := -(Int.gcd n d : Int)) (by rw [if_pos hneg])
    simp only [hneg, decide_true, if_true, h1, h2, sh_bind, ob_some, om_some]
    rfl
  · obtain ⟨h1, h2⟩ := s_frac (n := n) hd h (s := (Int.gcd n d : Int)) (by rw [if_neg hneg])
    simp only [hneg, decide_false, Bool.false_eq_true, if_false, h1, h2, sh_bind, ob_some, om_some]
    rfl
theorem s_lfraction (C : Cl) (n d : Int) (hd : d ≠ 0) (h : nb d.natAbs ≤ 4900) : mm__law_fraction C (.int n) (.int d) = sh (fr (Rat.divInt n d)) := by
  unfold mm__law_fraction
  simp only [abs_int, sh_bind, jn_def]
  have hr : rng1 (.int 10000) = some (intsFrom 0 10000) := rng1_ok (n := 10000) (by omega)
  rw [hr, ob_some]
  rw [euclid_for (fun x a kn kb => by simp) (fun x a b h0 kn kb => by
      have : ¬ (b : Int) = 0 := by omega
      simp only [cmp_eq, eqD_int, this, decide_false, ob_some, Bool.false_eq_true, if_false]
      rw [op2_mods (by omega), sh_bind]; rfl) 4900 n.natAbs d.natAbs 10000 0
    (Nat.lt_of_lt_of_le (lt_nb _) (Nat.pow_le_pow_right (by omega) h)) (by omega)]
  have hgcd : Nat.gcd n.natAbs d.natAbs = Int.gcd n d := rfl
  simp only [cmp_lt, ob_some, neg1_int, sh_bind, hgcd]
  by_cases hneg : d < 0
  · obtain ⟨h1, h2⟩ := s_frac (n := n) hd (by omega) (s := -(Int.gcd n d : Int)) (by rw [if_pos hneg])
    simp only [hneg, decide_true, if_true, h1, h2, sh_bind, ob_some, om_some]
    rfl
  · obtain ⟨h1, h2⟩ := s_frac (n := n) hd (by omega) (s := (Int.gcd n d : Int)) (by rw [if_neg hneg])
    simp only [hneg, decide_false, Bool.false_eq_true, if_false, h1, h2, sh_bind, ob_some, om_some]
    rfl
section
variable {x y : Rat}
theorem den_ne (x : Rat) : (x.den : Int) ≠ 0 := by have := x.den_nz; omega
theorem den_pos (x : Rat) : (0 : Int) < x.den := by have := x.den_pos; omega
theorem parts_ok (h : bz x + bz y ≤ 4900) : mulOk x.num y.den = true ∧ mulOk y.num x.den = true ∧ mulOk x.den y.den = true ∧ mulOk x.num y.num = true ∧ ((x.den : Int) * y.den ≠ 0) ∧ nb ((x.den : Int) * y.den).natAbs ≤ 4900 := by
  have a1 := bz_num x
  have a2 := bz_den x
  have b1 := bz_num y
  have b2 := bz_den y
  have hm := nb_mulI x.den y.den
  simp only [Int.natAbs_natCast] at hm
  refine ⟨mulOk_nb ?_, mulOk_nb ?_, mulOk_nb ?_, mulOk_nb ?_, Int.mul_ne_zero (den_ne x) (den_ne y), by omega⟩ <;> (try simp only [Int.natAbs_natCast]) <;> omega
end
theorem s_plus {C : Cl} (hc : S_fraction C) (x y : Rat) (h : bz x + bz y ≤ 4900) : mm_plus C (fr x) (fr y) = sh (fr (x + y)) := by
  obtain ⟨h1, h2, h3, h4, h5, h6⟩ := parts_ok h
  unfold mm_plus
  simp only [fr0, fr1, sh_bind, op2_mul h1, op2_mul h2, op2_mul h3, op2_add, ob_some, om_some, List.append_nil, hc _ _ h5 (by omega), cl1_sh, ← add_divInt]
  rfl
theorem s_minus {C : Cl} (hc : S_fraction C) (x y : Rat) (h : bz x + bz y ≤ 4900) : mm_minus C (fr x) (fr y) = sh (fr (x - y)) := by
  obtain ⟨h1, h2, h3, h4, h5, h6⟩ := parts_ok h
  unfold mm_minus
  simp only [fr0, fr1, sh_bind, op2_mul h1, op2_mul h2, op2_mul h3, op2_sub, ob_some, om_some, List.append_nil, hc _ _ h5 (by omega), cl1_sh, ← sub_divInt]
  rfl
theorem s_times {C : Cl} (hc : S_fraction C) (x y : Rat) (h : bz x + bz y ≤ 4900) : mm_times C (fr x) (fr y) = sh (fr (x * y)) := by
  obtain ⟨h1, h2, h3, h4, h5, h6⟩ := parts_ok h
  unfold mm_times
  simp only [fr0, fr1, sh_bind, op2_mul h4, op2_mul h3, ob_some, om_some, List.append_nil, hc _ _ h5 (by omega), cl1_sh, ← mul_divInt]
  rfl
theorem s_lplus {C : Cl} (hc : S_lfraction C) (x y : Rat) (h : bz x + bz y ≤ 4900) : mm__law_plus C (fr x) (fr y) = sh (fr (x + y)) := by
  obtain ⟨h1, h2, h3, h4, h5, h6⟩ := parts_ok h
  unfold mm__law_plus
  simp only [fr0, fr1, sh_bind, op2_mul h1, op2_mul h2, op2_mul h3, op2_add, ob_some, om_some, List.append_nil, hc _ _ h5 (by omega), cl1_sh, ← add_divInt]
  rfl
theorem s_lminus {C : Cl} (hc : S_lfraction C) (x y : Rat) (h : bz x + bz y ≤ 4900) : mm__law_minus C (fr x) (fr y) = sh (fr (x - y)) := by
  obtain ⟨h1, h2, h3, h4, h5, h6⟩ := parts_ok h
  unfold mm__law_minus
  simp only [fr0, fr1, sh_bind, op2_mul h1, op2_mul h2, op2_mul h3, op2_sub, ob_some, om_some, List.append_nil, hc _ _ h5 (by omega), cl1_sh, ← sub_divInt]
  rfl
theorem s_ltimes {C : Cl} (hc : S_lfraction C) (x y : Rat) (h : bz x + bz y ≤ 4900) : mm__law_times C (fr x) (fr y) = sh (fr (x * y)) := by
  obtain ⟨h1, h2, h3, h4, h5, h6⟩ := parts_ok h
  unfold mm__law_times
  simp only [fr0, fr1, sh_bind, op2_mul h4, op2_mul h3, ob_some, om_some, List.append_nil, hc _ _ h5 (by omega), cl1_sh, ← mul_divInt]
  rfl
theorem lt_parts (x y : Rat) : (x.num * y.den < y.num * x.den) ↔ x < y := (Rat.lt_iff x y).symm
theorem s_less (C : Cl) (x y : Rat) (h : bz x + bz y ≤ 4900) : mm_less C (fr x) (fr y) = sh (.bl (decide (x < y))) := by
  obtain ⟨h1, h2, h3, h4, h5, h6⟩ := parts_ok h
  unfold mm_less
  simp only [fr0, fr1, sh_bind, op2_mul h1, op2_mul h2, cmpV_def, cmp_lt, ob_some, lt_parts]
  rfl
theorem s_lbefore (C : Cl) (x y : Rat) (h : bz x + bz y ≤ 4900) : mm__law_before C (fr x) (fr y) = sh (.bl (decide (x < y))) := by
  obtain ⟨h1, h2, h3, h4, h5, h6⟩ := parts_ok h
  unfold mm__law_before
  simp only [fr0, fr1, sh_bind, op2_mul h1, op2_mul h2, cmpV_def, cmp_lt, ob_some, lt_parts]
  rfl
/-- the sign, and the size, of a fraction -/
def sgn (x : Rat) : Int := if x < 0 then -1 else if 0 < x then 1 else 0
def ab (x : Rat) : Rat := if x < 0 then -x else x
theorem num_neg_iff (x : Rat) : x.num < 0 ↔ x < 0 := by rw [Rat.lt_iff]; simp
theorem num_pos_iff (x : Rat) : 0 < x.num ↔ 0 < x := by rw [Rat.lt_iff]; simp
theorem num_zero_iff (x : Rat) : x.num = 0 ↔ x = 0 := Rat.num_eq_zero
theorem s_sign (C : Cl) (x : Rat) : mm_sign C (fr x) = sh (.int (sgn x)) := by
  unfold mm_sign sgn
  simp only [fr0, sh_bind, cmp_lt, cmp_gt, ob_some, num_neg_iff, num_pos_iff]
  by_cases h : x < 0
  · simp [h]
  · by_cases h2 : 0 < x <;> simp [h, h2]
theorem abs_fr (x : Rat) : PV.tup [.int x.num.natAbs, .int x.den] = fr (ab x) := by
  unfold ab fr
  by_cases h : x < 0
  · have := (num_neg_iff x).mpr h
    rw [if_pos h]
    have h1 : (-x).num = - x.num := rfl
    have h2 : (-x).den = x.den := rfl
    rw [h1, h2]
    congr 3
    omega
  · have := mt (num_neg_iff x).mp h
    rw [if_neg h]
    congr 3
    omega
theorem bz_ab (x : Rat) : bz (ab x) = bz x := by
  unfold ab
  split
  · exact bz_neg x
  · rfl
theorem s_bare (C : Cl) (x : Rat) : mm_bare C (fr x) = sh (fr (ab x)) := by
  unfold mm_bare
  simp only [fr0, fr1, sh_bind, ob_some, abs_int, om_some, abs_fr]
  rfl
theorem s_lbare (C : Cl) (x : Rat) : mm__law_bare C (fr x) = sh (fr (ab x)) := by
  unfold mm__law_bare
  simp only [fr0, fr1, sh_bind, ob_some, abs_int, om_some, abs_fr]
  rfl
theorem s_lint (C : Cl) (i : Int) : mm__law_is_integer C (.int i) = sh (.bl true) := by
  unfold mm__law_is_integer
  simp
  rfl
theorem s_ltruth (C : Cl) (a b : Bool) : mm__law_is_truth C (.bl a) (.bl b) = sh (.bl (decide (a = b))) := by
  unfold mm__law_is_truth
  have : eqD (.bl a) (.bl b) = some (decide (a = b)) := by cases a <;> cases b <;> decide +kernel
  simp [this]
  rfl
theorem divInt_self' (x : Rat) : Rat.divInt x.num x.den = x := Rat.num_divInt_den x
theorem s_lisfr {C : Cl} (hc : S_lfraction C) (hi : ∀ i, C "_law_is_integer" [.int i] = sh (.bl true)) (x : Rat) (h : bz x ≤ 4900) : mm__law_is_fraction C (fr x) = sh (.bl true) := by
  have hd : ¬ (x.den : Int) < 1 := by have := den_pos x; omega
  have hn := bz_den x
  have e : insV "tuple" (fr x) = sh (.bl true) := ins_tt
  have e2 : bltV "len" [fr x] = sh (.int 2) := rfl
  unfold mm__law_is_fraction
  simp only [e, e2, fr0, fr1, sh_bind, ob_some, truth_bl, om_some, Bool.not_true, Bool.false_eq_true, if_false, cmp_ne, eqD_int, decide_true, hi, List.append_nil, cl1_sh, cmp_lt, hd, decide_false,
    hc x.num x.den (den_ne x) (by simpa using Nat.le_trans hn h), divInt_self', cmpV_def, cmp_eq, eqD_fr]
  rfl
/-- the drawing -/
theorem s_lcell (C : Cl) (ns : List Int) : mm__law_cell C (.lst (ns.map .int)) (.int 0) = sh (.int ((ns.head?.getD 0).natAbs : Int)) := by
  unfold mm__law_cell
  cases ns with
  | nil => simp
  | cons n ns =>
    have : (0 : Int) < ((n :: ns).map PV.int).length := by simp
    simp only [len_lst, sh_bind, cmp_lt, this, decide_true, ob_some, if_true]
    simp
    rfl
theorem s_lcellk (C : Cl) (ns : List Int) (k : Nat) : mm__law_cell C (.lst (ns.map .int)) (.int k) = sh (.int ((ns.getD k 0).natAbs : Int)) := by
  unfold mm__law_cell
  simp only [len_lst, sh_bind, cmp_lt, ob_some, List.length_map]
  by_cases h : k < ns.length
  · have h' : (k : Int) < (ns.length : Int) := by omega
    have e : ix (.lst (ns.map .int)) (.int k) = sh (.int ns[k]) := ixL (by simp [h])
    simp only [h', decide_true, if_true, e, sh_bind, ob_some, int_int, abs_int]
    simp [h]
    rfl
  · have h' : ¬ (k : Int) < (ns.length : Int) := by omega
    simp only [h', decide_false, Bool.false_eq_true, if_false]
    simp [h]
theorem mulOk_of {i j : Int} (a b : Nat) (hi : i.natAbs < 2 ^ a) (hj : j.natAbs < 2 ^ b) (ha : 0 < a) (hb : 0 < b) (h : a + b ≤ 1000000) : mulOk i j = true :=
  mulOk_nb (by have := nb_le hi ha; have := nb_le hj hb; omega)
theorem pow18 : op2 .Pow (.int 10) (.int 18) = sh (.int (10 ^ 18)) := nr rfl
def mix (cell k base : Int) : Int := (((cell % 1000003 * 48271 + k * 69621 + cell / 1000003) % 2147483647 * 16807 + k * 12345 + 99991) % 2147483629) / 7 % base
theorem s_lrow (C : Cl) (cell size base : Nat) (hs : size ≤ 1000) (hb : 0 < base) (hb2 : base < 2 ^ 60) :
    ∃ f : Nat → Int, (∀ i, 0 ≤ f i ∧ f i < base) ∧ mm__law_row C (.int cell) (.int size) (.int base) = some (.lst (rl size fun i => .int (f i)), true) := by
  by_cases hc : (10 ^ 18 : Int) ≤ cell
  · refine ⟨fun i => ((cell / base ^ i : Nat) : Int) % base, fun i => ⟨Int.emod_nonneg _ (by omega), Int.emod_lt_of_pos _ (by omega)⟩, ?_⟩
    unfold mm__law_row
    simp only [jn_def, rng1_ok (show size ≤ 1000000 by omega), ob_some]
    rw [forC_rng size (fun k => (rl k fun i => .int (((cell / base ^ i : Nat) : Int) % base), PV.int (cell / base ^ k : Nat))) (by simp)]
    intro k hk kn kb
    simp only [pow18, sh_bind, cmp_ge, hc, decide_true, ob_some, if_true, int_int]
    rw [op2_mods (by omega), sh_bind, push_rl (by omega) rfl, ob_some, op2_divs (by omega) (by omega), sh_bind]
    congr 3
    show PV.int _ = PV.int _
    congr 1
    rw [Nat.pow_succ, ← Nat.div_div_eq_div_mul]
    simp
  · refine ⟨fun i => mix cell i base, fun i => ⟨Int.emod_nonneg _ (by omega), Int.emod_lt_of_pos _ (by omega)⟩, ?_⟩
    unfold mm__law_row
    simp only [jn_def, rng1_ok (show size ≤ 1000000 by omega), ob_some]
    rw [forC_rng size (fun k => (rl k fun i => .int (mix cell i base), PV.int cell)) (by simp)]
    intro k hk kn kb
    simp only [pow18, sh_bind, cmp_ge, hc, decide_false, ob_some, Bool.false_eq_true, if_false, int_int]
    rw [op2_mods (by omega), sh_bind, op2_mul (mulOk_of 60 60 (by have := Int.emod_lt_of_pos (cell : Int) (b := 1000003) (by omega); have := Int.emod_nonneg (cell : Int) (b := 1000003) (by omega); omega) (by omega) (by omega) (by omega) (by omega)), sh_bind,
      op2_mul (mulOk_of 60 60 (by omega) (by omega) (by omega) (by omega) (by omega)), sh_bind, op2_add, sh_bind, op2_divs (by omega) (by omega), sh_bind, op2_add, sh_bind, op2_mods (by omega), sh_bind]
    generalize hm : (((cell : Int) % 1000003 * 48271 + k * 69621 + cell / 1000003) % 2147483647) = m
    have m1 : 0 ≤ m := by rw [← hm]; exact Int.emod_nonneg _ (by omega)
    have m2 : m < 2147483647 := by rw [← hm]; exact Int.emod_lt_of_pos _ (by omega)
    rw [op2_mul (mulOk_of 60 60 (by omega) (by omega) (by omega) (by omega) (by omega)), sh_bind, op2_mul (mulOk_of 60 60 (by omega) (by omega) (by omega) (by omega) (by omega)), sh_bind, op2_add, sh_bind, op2_add, sh_bind, op2_mods (by omega), sh_bind,
      op2_divs (by omega) (by omega), sh_bind, op2_mods (by omega), sh_bind, push_rl (by omega) (by simp only [mix, hm]), ob_some]
end Pv

/-! Part X: a def that raises by a raise of its own; a def whose top tries a call of it -/
namespace Pv
open PySem L2 PySem.Spec PyProof.Rows

/-- an exception class of the module's own, below ValueError -/
structure ClsX (K : PySem.W.Frag) (mg : Str → Option Value) (x : Str) (CF : Addr) : Prop where
  gF : mg x = some (.ref CF)
  xF : PySem.W.excIn K CF [.type "ValueError", .type "Exception", .type "BaseException", .type "object"] "ValueError.__new__" = true
  kF : PySem.W.keepIn K (.ref CF) = true
  bF : PySem.W.subIn K (.ref CF) (.type "BaseException") = some true
  tF : PySem.W.typeIn K (.ref CF) = some (.type "type")
  eF : PySem.W.exmOne K (.ref CF) (.ref CF) = some true
def raiB (sc : Scope) (cl : Str) : Option PySem.Expr → Option PySem.Expr → Bool
  | some (.Call (.Name x _) [.Constant (.str _) _ _] [] _), none => okNm x && glB sc x && x == cl
  | _, _ => false
/-- statements until a raise of cl -/
def exX (T : Tb) (N : List Str) (M W : Nat) (sc : Scope) (D : Nat) (cl : Str) : Nat → List Stmt → Fm → Bool
  | 0, _, _ => false
  | _ + 1, [], _ => false
  | n + 1, s :: r, σ => match s with
    | .Raise e f _ => raiB sc cl e f
    | .If c a [] pos => (match evTst (evT T N M sc) σ c with
      | some true => exX T N M W sc D cl n a σ
      | some false => exX T N M W sc D cl n r (clr (T.fgt pos.line pos.col) σ)
      | none => false)
    | s => (match exS T N M W sc D σ s with
      | some (.nx σ') => exX T N M W sc D cl n r σ'
      | _ => false)
section
variable {c : Cc} {T : Tb} {sc : Scope}
def XSs (c : Cc) (sc : Scope) (W : WX) (CF : Addr) (l : List Stmt) (g : Fm → Bool) : Prop := ∃ t : TS, (∀ X, SOk c sc X → Takes X W → PSs X l t) ∧ ∀ σp, g σp = true → ∀ H0 F0 F ad σ H D, SRel c.K H0 F0 F ad σp σ H → (∀ d F' H' σ', Grow F0 H0 F' H' → W (.ref CF) d σ' H') → t D σ H
theorem XSs.none {W : WX} {CF : Addr} {l : List Stmt} : XSs c sc W CF l fun _ => false := ⟨fun _ _ _ => False, fun _ _ _ => ⟨fun _ _ _ _ _ _ h => h.elim⟩, fun _ h => nomatch h⟩
theorem XSs.congr {W : WX} {CF : Addr} {l : List Stmt} {f g : Fm → Bool} (h : XSs c sc W CF l f) (q : ∀ σ, g σ = f σ) : XSs c sc W CF l g :=
  let ⟨t, a, b⟩ := h; ⟨t, a, fun σp e => b σp (by rw [← q]; exact e)⟩
theorem xss_step {W : WX} {CF : Addr} {s : Stmt} {r : List Stmt} {f : Fm → Option Fl} {g : Fm → Bool} (hs : SS c sc s f) (hr : XSs c sc W CF r g) : XSs c sc W CF (s :: r) fun σ => match f σ with | some (.nx σ') => g σ' | _ => false := by
  obtain ⟨t, a, b⟩ := hs
  obtain ⟨u, a2, b2⟩ := hr
  refine ⟨tSeq t u, fun X x tk => pss_cons (a X x) (a2 X x tk), fun σp e H0 F0 F ad σ H D r k => ?_⟩
  dsimp only at e
  split at e
  · rename_i σ' e1
    exact b σp _ e1 H0 F0 F ad σ H _ r fun F1 ad1 σ1 H1 r1 => b2 σ' e H0 F0 F1 ad1 σ1 H1 D r1 k
  · cases e
theorem sound_x {M W : Nat} {D : Nat} {cl : Str} {CF : Addr} (ok : TabOk c T) (cx : ClsX c.K c.mg cl CF) (wx : WX) : ∀ n l, XSs c sc wx CF l fun σ => exX T c.N M W sc D cl n l σ
  | 0, l => XSs.none.congr fun σ => by simp only [exX]
  | n + 1, [] => XSs.none.congr fun σ => by simp only [exX]
  | n + 1, s :: r => by
    have IH := fun l => sound_x (M := M) (W := W) (D := D) ok cx wx n l
    have ST := xss_step (W := wx) (CF := CF) (r := r) (sound_s (M := M) (W := W) ok sc D s) (IH r)
    cases s with
    | Raise e f pos =>
      by_cases h0 : raiB sc cl e f = true
      · have h0' := h0
        unfold raiB at h0'
        split at h0'
        · rename_i x xp m j cp pos'
          rw [Bool.and_eq_true, Bool.and_eq_true] at h0'
          obtain ⟨⟨h1, h2⟩, h3⟩ := h0'
          have h3 : x = cl := by simpa using h3
          subst h3
          refine ⟨tSeq (fun _ σ H => wx (.ref CF) none σ H) tNever, fun X ok' tk => ?_, fun σp e H0 F0 F ad σ H D r k => k none F H σ r.g⟩
          refine pss_cons (ps_raise ok'.cx.calm tk (pmk_own PySem.F.excBase_ValueError (by rw [ok'.cx.K]; exact cx.xF) (by rw [ok'.cx.mg]; exact cx.gF) (by rw [ok'.cx.K]; exact cx.kF) (raises_own (by rw [ok'.cx.K]; exact cx.bF) (by rw [ok'.cx.K]; exact cx.tF)) (gl_of (by rw [ok'.cx.sc]; exact h2)) (okNm_d h1).1)) ?_
          exact ⟨fun _ _ _ _ _ _ h => h.elim⟩
        · cases h0'
      · exact XSs.none.congr fun σ => by simp only [exX]; simpa using h0
    | If e a b pos =>
      cases b with
      | cons _ _ => exact ST.congr fun σ => by rfl
      | nil =>
        obtain ⟨tt, a1, b1⟩ := (sound ok M).t sc (fun _ => true) e
        obtain ⟨ta, a2, b2⟩ := IH a
        obtain ⟨tr, a3, b3⟩ := IH r
        refine ⟨tSeq (tIfS tt ta tNext) tr, fun X ok' tk => pss_cons (ps_if (a1 X ok'.cx) (a2 X ok' tk) pss_nil) (a3 X ok' tk), fun σp q H0 F0 F ad σ H D r k => ?_⟩
        simp only [exX] at q
        split at q
        · rename_i e1
          refine tst_ok (f := evT T c.N M sc) b1 e1 H0 F0 F ad σ H r _ fun F' H' r' => ?_
          rw [if_pos rfl]
          exact b2 σp q H0 F0 F' ad σ H' _ r' k
        · rename_i e1
          refine tst_ok (f := evT T c.N M sc) b1 e1 H0 F0 F ad σ H r _ fun F' H' r' => ?_
          rw [if_neg Bool.false_ne_true]
          obtain ⟨F2, r2⟩ := r'.clr (T.fgt pos.line pos.col)
          exact b3 _ q H0 F0 F2 ad σ H' D r2 k
        · cases q
    | _ => exact ST.congr fun σ => by rfl
end

/-! ### the defs -/
def spX (K : PySem.W.Frag) (n : Nat) (CF : Addr) (g : List PV → Bool) : Sp := fun vs H Q E => vs.length = n ∧ ∃ F xs, Same F H ∧ Reps K F vs xs ∧ g xs = true ∧ ∀ d F' H', Grow F H F' H' → E (.ref CF) d H'
def runX (p : Pg) (d : Nat) (cl : Str) (fd : FD) (xs : List PV) : Bool := decide (xs.length = fd.ps.length) && exX (tbOf p (run p d)) fd.N p.M p.W fd.sc p.D cl p.D fd.body (startF fd.N xs)
section
variable {P : Program} {w : World} {K : PySem.W.Frag} {mg : Str → Option Value} {p : Pg}
theorem tab_ok (ok : PgOk K mg p) (d : Nat) {base : Heap} (hK : K.In base) (hG : base.Ns mainGlobals mg) {N : List Str} (nd : N.Nodup) : TabOk ⟨P, w, K, mg, base, N, d⟩ (tbOf p (run p d)) := by
  refine ⟨fun x q h => ok.con (x, q) (PySem.mem_of_lookup h), fun g2 n ds h => ?_, fun g2 n ks h => ?_, fun x h => ?_, fun x ty h => ok.cls (x, ty) (PySem.mem_of_lookup h), nd⟩
  · obtain ⟨fd2, h2, h⟩ := Option.bind_eq_some_iff.mp h
    obtain ⟨f2, fdd2, D2⟩ := ok.def h2
    obtain ⟨dvs, us, b1, b2, b3, b4⟩ := D2.dfl (n, ds) (memN h)
    exact ⟨f2, fdd2, fd2.ps, dvs, us, D2.mg, D2.kp, run_ok ok d base hK hG g2 fd2 f2 fdd2 h2 D2, b1, b2, b3, b4⟩
  · have h : p.kwd g2 n ks = true := h
    unfold Pg.kwd at h
    cases h2 : p.defs g2 with
    | none => rw [h2] at h; cases h
    | some fd2 =>
    rw [h2] at h
    obtain ⟨⟨n', ks'⟩, hq, h⟩ := List.any_eq_true.mp h
    simp only [Bool.and_eq_true, beq_iff_eq] at h
    obtain ⟨rfl, rfl⟩ := h
    obtain ⟨f2, fdd2, D2⟩ := ok.def h2
    obtain ⟨g1, g2', b1, b2, b3⟩ := D2.kwd _ hq
    exact ⟨f2, fdd2, fd2.ps, g1, g2', D2.mg, D2.kp, run_ok ok d base hK hG g2 fd2 f2 fdd2 h2 D2, b1, b2, b3⟩
  · unfold isBlt at h
    obtain ⟨y, hy, e⟩ := List.any_eq_true.mp h
    have e' : y = x := by simpa using e
    subst e'
    exact ok.blt y hy
theorem run_okX (ok : PgOk K mg p) {cl : Str} {CF : Addr} (cx : ClsX K mg cl CF) (d : Nat) {base : Heap} (hK : K.In base) (hG : base.Ns mainGlobals mg) {g : Str} {fd : FD} {f : Addr} {fdd : FuncData} (hd : p.defs g = some fd) (D : DefOk K mg g fd f fdd) :
    FnOk P w K mg base (L2.CX P w) (d + 1) f fdd fd.ps (spX K fd.ps.length CF (runX p d cl fd)) := by
  obtain ⟨oc, od, name, qual, params, dV, kV, doc, pm, an, cdv, ct, osl, rfl, lk, hcd⟩ := D.ex
  have T : TabOk ⟨P, w, K, mg, base, fd.N, d⟩ (tbOf p (run p d)) := tab_ok ok d hK hG D.scope.nd
  refine fn_of lk hcd D.scope (fun vs H Q E h => h.1) fun A outer s H vs Q E hr hsp => ?_
  obtain ⟨hl, F, xs, sF, rs, hrun, k⟩ := hsp
  unfold runX at hrun
  rw [Bool.and_eq_true] at hrun
  obtain ⟨t, a, b⟩ := sound_x (c := ⟨P, w, K, mg, base, fd.N, d⟩) (sc := fd.sc) (M := p.M) (W := p.W) (D := p.D) T cx (fun cls d _ H => E cls d H) p.D fd.body
  refine ⟨t, a _ ⟨⟨rfl, rfl, rfl, rfl, rfl, rfl, rfl, hr, rfl, fun x _ => .inl rfl⟩, passes_of rfl, D.scope.kind⟩ (takes_of rfl rfl rfl rfl), ?_⟩
  exact b _ hrun.2 H F F (fun _ => 0) _ H _ (start_rel sF rs) fun d F' H' _ g => k d F' H' g
end

/-! ### a def whose top tries a call -/
structure Xt where
  X : Str → List PV → Str → Bool
  xc : Str → Bool
def exT (T : Tb) (x : Xt) (N : List Str) (M W : Nat) (sc : Scope) (D : Nat) : List Stmt → Fm → Out
  | [], _ => none
  | s :: r, σ => match s with
    | .Try [.Expr (.Call (.Name f _) (e0 :: es) [] _) _] [.ExceptHandler (some (.Name cl _)) none [.Return (some (.Constant (.bool b) _ _)) _] _] [] [] _ =>
      if okNm f && glB sc f && okNm cl && glB sc cl && x.xc cl && !(starB (e0 :: es)) then (T.dfl f (e0 :: es).length).bind fun ds => (evEs (evE T N M sc (vis σ)) (e0 :: es)).bind fun xs => if x.X f (xs ++ ds) cl then some (.bl b, false) else none
      else none
    | s => (exS T N M W sc D σ s).bind fun fl => match fl with
      | .nx σ' => exT T x N M W sc D r σ'
      | .rt y o => some (y, o)
      | _ => none
structure XtOk (c : Cc) (T : Tb) (x : Xt) : Prop where
  cls : ∀ cl, x.xc cl = true → ∃ CF, ClsX c.K c.mg cl CF ∧ ∀ g n ds, T.dfl g n = some ds → ∃ f fd ps dvs us, c.mg g = some (.ref f) ∧ PySem.W.keepIn c.K (.ref f) = true ∧ FnOk c.P c.w c.K c.mg c.base (L2.CX c.P c.w) c.d f fd ps (spX c.K ps.length CF fun xs => x.X g xs cl) ∧ Binds c.K fd ps us ∧ Vals dvs us ∧
    (∀ F, Reps c.K F dvs ds) ∧ n + ds.length = ps.length
section
variable {c : Cc} {T : Tb} {sc : Scope}
def TSs (c : Cc) (sc : Scope) (l : List Stmt) (g : Fm → Out) : Prop := ∃ t : TS, (∀ X, SOk c sc X → X.stack = X.env :: X.outer → X.env.frame = some X.env.locals → PSs X l t) ∧
  ∀ σp y o, g σp = some (y, o) → ∀ H0 F0 F ad σ H D, SRel c.K H0 F0 F ad σp σ H → (∀ F' H' v, Grow F0 H0 F' H' → Res c.K H0 F' H' v y o → D.rt v H') → t D σ H
theorem TSs.none {l : List Stmt} : TSs c sc l fun _ => .none := ⟨fun _ _ _ => False, fun _ _ _ _ => ⟨fun _ _ _ _ _ _ h => h.elim⟩, fun _ _ _ h => nomatch h⟩
theorem TSs.congr {l : List Stmt} {f g : Fm → Out} (h : TSs c sc l f) (q : ∀ σ, g σ = f σ) : TSs c sc l g :=
  let ⟨t, a, b⟩ := h; ⟨t, a, fun σp y o e => b σp y o (by rw [← q]; exact e)⟩
theorem tss_step {s : Stmt} {r : List Stmt} {f : Fm → Option Fl} {g : Fm → Out} (hs : SS c sc s f) (hr : TSs c sc r g) : TSs c sc (s :: r) fun σ => (f σ).bind fun fl => match fl with
      | .nx σ' => g σ'
      | .rt y o => some (y, o)
      | _ => .none := by
  obtain ⟨t, a, b⟩ := hs
  obtain ⟨u, a2, b2⟩ := hr
  refine ⟨tSeq t u, fun X x h1 h2 => pss_cons (a X x) (a2 X x h1 h2), fun σp y o e H0 F0 F ad σ H D r k => ?_⟩
  obtain ⟨fl, e1, e2⟩ := Option.bind_eq_some_iff.mp e
  refine b σp fl e1 H0 F0 F ad σ H _ r ?_
  cases fl with
  | nx σ' => exact fun F1 ad1 σ1 H1 r1 => b2 σ' y o e2 H0 F0 F1 ad1 σ1 H1 D r1 k
  | rt z q =>
    simp only [Option.some.injEq, Prod.mk.injEq] at e2
    obtain ⟨rfl, rfl⟩ := e2
    exact fun F' H' v g res => k F' H' v g res
  | bk _ => cases e2
  | ct _ => cases e2
theorem takes0 {X : Cx} : Takes X fun _ _ _ _ => False := fun u s' ⟨_, _, _, _, _, _, _, _, _, _, _, _, _, _, _, _, w⟩ => w.elim
theorem tss_try {x : Xt} {M W : Nat} {f cl : Str} {e0 : PySem.Expr} {es : List PySem.Expr} {r : List Stmt} {b : Bool} {p1 p2 p3 p4 p5 p6 p7 : Pos} {j : Nat} (ok : TabOk c T) (xo : XtOk c T x)
    (h1 : okNm f = true) (h2 : glB sc f = true) (h3 : okNm cl = true) (h4 : glB sc cl = true) (h5 : x.xc cl = true) (h6 : starB (e0 :: es) = false) :
    TSs c sc (.Try [.Expr (.Call (.Name f p1) (e0 :: es) [] p2) p3] [.ExceptHandler (some (.Name cl p4)) none [.Return (some (.Constant (.bool b) j p5)) p6] p7] [] [] pos :: r) fun σ =>
      (T.dfl f (e0 :: es).length).bind fun ds => (evEs (evE T c.N M sc (vis σ)) (e0 :: es)).bind fun xs => if x.X f (xs ++ ds) cl then some (.bl b, false) else .none := by
  obtain ⟨CF, cx, hc⟩ := xo.cls cl h5
  cases hd : T.dfl f (e0 :: es).length with
  | none => exact TSs.none.congr fun σ => rfl
  | some ds =>
    obtain ⟨fa, fd, ps, dvs, us, a1, a2, a3, a4, a5, a6, a7⟩ := hc f _ ds hd
    obtain ⟨ta, b1, b2⟩ := sa_of (c := c) (sc := sc) (asg := fun _ => true) (es := e0 :: es) (f := fun σ e => evE T c.N M sc σ e) fun e _ => (sound ok M).e sc (fun _ => true) e
    refine ⟨tSeq (fun D σ H => tDrop (tCall (spX c.K ps.length CF fun xs => x.X f xs cl) dvs (fun k d H => ∀ σ, wOnly c.K (.ref CF) (fun _ _ _ => tRet (tC (.bl b))) (fun _ _ _ _ => False) D k d σ H) ta) D σ H) tNever, fun X ok' hs hf => ?_, fun σp y o e H0 F0 F ad σ H D r k => ?_⟩
    · have hK := ok'.cx.K
      refine pss_cons ?_ ⟨fun _ _ _ _ _ _ h => h.elim⟩
      rw [← hK]
      refine ps_try_only (tb := fun W => tDrop (tCall (spX X.K ps.length CF fun xs => x.X f xs cl) dvs (fun k d H => ∀ σ, W k d σ H) ta)) (ts := fun _ _ _ => tRet (tC (.bl b))) (Wout := fun _ _ _ _ => False) hs hf
        ⟨gl_of (by rw [ok'.cx.sc]; exact h4), (okNm_d h3).1, .inl (by rw [ok'.cx.mg]; exact cx.gF)⟩ takes0 (fun W pn xe tk _ => ?_) (fun a oe k d pn _ _ => pss_one (ps_ret pe_bl))
      have cxt : CxOk c sc (fun _ => true) (X.tr pn xe) := ⟨ok'.cx.P, ok'.cx.w, ok'.cx.K, ok'.cx.mg, ok'.cx.base, ok'.cx.N, ok'.cx.sc, ok'.cx.rm, ok'.cx.calm, ok'.cx.as⟩
      refine pss_one (ps_expr (pe_call (CX := L2.CX X.prog X.w) (f := fa) (fd := fd) (ps := ps) (k := c.d) (ds := us) ?_ cxt.rm (gl_of (by rw [cxt.sc]; exact h2)) (by rw [cxt.mg]; exact a1) (by rw [cxt.K]; exact a2) (by rw [cxt.K]; exact a4) a5 (passes_call tk fun k d σ H h => h σ) (b1 _ cxt) (okNm_d h1).1
        (star_of (starB_no h6 e0 (List.mem_cons_self ..))) (plain_any fun e' he => starB_no h6 e' (List.mem_cons_of_mem _ he))) (by rfl))
      show FnOk X.prog X.w X.K X.mg X.base (L2.CX X.prog X.w) c.d fa fd ps _
      rw [ok'.cx.P, ok'.cx.w, ok'.cx.K, ok'.cx.mg, ok'.cx.base]
      exact a3
    · simp only [Option.bind_some] at e
      obtain ⟨xs, e1, e2⟩ := Option.bind_eq_some_iff.mp e
      split at e2
      · rename_i hx
        cases e2
        refine b2 (vis σp) xs e1 F H σ r.g.in_ r.vis _ fun vs F1 H1 g1 r1 => ?_
        have hlen : xs.length = (e0 :: es).length := evEs_length e1
        refine ⟨?_, F1, xs ++ ds, g1.in_, r1.append (a6 F1), hx, fun d F' H' g2 σ' => ⟨true, cx.eF, fun _ a _ => ?_, fun h => nomatch h⟩⟩
        · rw [List.length_append, r1.length, (a6 F1).length, hlen]
          exact a7
        · exact k F' H' _ ((r.g.trans g1).trans g2) (.of (.bl b))
      · cases e2
theorem sound_tt {x : Xt} {M W D : Nat} (ok : TabOk c T) (xo : XtOk c T x) : ∀ l, TSs c sc l fun σ => exT T x c.N M W sc D l σ
  | [] => TSs.none.congr fun σ => by rfl
  | s :: r => by
    have ST := tss_step (r := r) (sound_s (M := M) (W := W) ok sc D s) (sound_tt (x := x) (M := M) (W := W) (D := D) ok xo r)
    by_cases h : ∃ f p1 e0 es p2 p3 cl p4 b j p5 p6 p7 pos, s = .Try [.Expr (.Call (.Name f p1) (e0 :: es) [] p2) p3] [.ExceptHandler (some (.Name cl p4)) none [.Return (some (.Constant (.bool b) j p5)) p6] p7] [] [] pos
    · obtain ⟨f, p1, e0, es, p2, p3, cl, p4, b, j, p5, p6, p7, pos, rfl⟩ := h
      by_cases h0 : (okNm f && glB sc f && okNm cl && glB sc cl && x.xc cl && !(starB (e0 :: es))) = true
      · have h0' := h0
        simp only [Bool.and_eq_true, Bool.not_eq_true'] at h0'
        obtain ⟨⟨⟨⟨⟨h1, h2⟩, h3⟩, h4⟩, h5⟩, h6⟩ := h0'
        exact (tss_try (M := M) (W := W) ok xo h1 h2 h3 h4 h5 h6).congr fun σ => by simp only [exT, h0, if_true]
      · exact TSs.none.congr fun σ => by simp only [exT, h0]; rfl
    · refine ST.congr fun σ => ?_
      conv => lhs; unfold exT
      split
      · exact absurd ⟨_, _, _, _, _, _, _, _, _, _, _, _, _, _, rfl⟩ h
      · rfl
end
section
variable {P : Program} {w : World} {K : PySem.W.Frag} {mg : Str → Option Value} {p : Pg}
/-- the raising run of a def, by name -/
def xtOf (p : Pg) (d : Nat) (cls : List Str) : Xt := ⟨fun g xs cl => match p.defs g with | some fd => runX p d cl fd xs | none => false, fun cl => cls.any (· == cl)⟩
def runT (p : Pg) (d : Nat) (cls : List Str) (fd : FD) (xs : List PV) : Out := if xs.length = fd.ps.length then exT (tbOf p (run p (d + 1))) (xtOf p d cls) fd.N p.M p.W fd.sc p.D fd.body (startF fd.N xs) else none
theorem run_okT (ok : PgOk K mg p) {cls : List Str} (hc : ∀ cl ∈ cls, ∃ CF, ClsX K mg cl CF) (d : Nat) {base : Heap} (hK : K.In base) (hG : base.Ns mainGlobals mg) {g : Str} {fd : FD} {f : Addr} {fdd : FuncData} (D : DefOk K mg g fd f fdd) :
    FnOk P w K mg base CX0 (d + 2) f fdd fd.ps (spOf K fd.ps.length (runT p d cls fd)) := by
  obtain ⟨oc, od, name, qual, params, dV, kV, doc, pm, an, cdv, ct, osl, rfl, lk, hcd⟩ := D.ex
  have T : TabOk ⟨P, w, K, mg, base, fd.N, d + 1⟩ (tbOf p (run p (d + 1))) := tab_ok ok (d + 1) hK hG D.scope.nd
  have XO : XtOk ⟨P, w, K, mg, base, fd.N, d + 1⟩ (tbOf p (run p (d + 1))) (xtOf p d cls) := by
    refine ⟨fun cl h => ?_⟩
    obtain ⟨y, hy, e⟩ := List.any_eq_true.mp h
    have e' : y = cl := by simpa using e
    subst e'
    obtain ⟨CF, cx⟩ := hc y hy
    refine ⟨CF, cx, fun g2 n ds h => ?_⟩
    obtain ⟨fd2, h2, h⟩ := Option.bind_eq_some_iff.mp h
    obtain ⟨f2, fdd2, D2⟩ := ok.def h2
    obtain ⟨dvs, us, b1, b2, b3, b4⟩ := D2.dfl (n, ds) (memN h)
    have := run_okX (P := P) (w := w) ok cx d hK hG h2 D2
    refine ⟨f2, fdd2, fd2.ps, dvs, us, D2.mg, D2.kp, ?_, b1, b2, b3, b4⟩
    have e2 : (fun xs => (xtOf p d cls).X g2 xs y) = runX p d y fd2 := by
      funext xs
      show (match p.defs g2 with | some fd => runX p d y fd xs | none => false) = _
      rw [h2]
    rw [e2]
    exact this
  refine fn_of lk hcd D.scope (fun vs H Q E h => h.1) fun A outer s H vs Q E hr hsp => ?_
  obtain ⟨hl, F, xs, x, own, sF, rs, hrun, k⟩ := hsp
  unfold runT at hrun
  split at hrun
  · obtain ⟨t, a, b⟩ := sound_tt (c := ⟨P, w, K, mg, base, fd.N, d + 1⟩) (sc := fd.sc) (M := p.M) (W := p.W) (D := p.D) T XO fd.body
    refine ⟨t, PSs.nox (a _ ⟨⟨rfl, rfl, rfl, rfl, rfl, rfl, rfl, hr, rfl, fun x _ => .inl rfl⟩, PassesOwn.never, D.scope.kind⟩ rfl rfl), ?_⟩
    exact b _ x own hrun H F F (fun _ => 0) _ H _ (start_rel sF rs) fun F' H' v g res => k v F' H' g res
  · cases hrun
end
def isTry : Stmt → Bool
  | .Try _ _ _ _ _ => true
  | _ => false
theorem exT_pre {T : Tb} {x : Xt} {N : List Str} {M W : Nat} {sc : Scope} {D : Nat} : ∀ (l r : List Stmt) (σ : Fm), (l.all fun s => !(isTry s)) = true →
    exT T x N M W sc D (l ++ r) σ = exLK (exK T N M W sc D) l σ (fun σ' => exT T x N M W sc D r σ') (fun _ => none) (fun _ => none)
  | [], r, σ, _ => rfl
  | s :: l, r, σ, h => by
    rw [List.all_cons, Bool.and_eq_true] at h
    have e : exT T x N M W sc D (s :: (l ++ r)) σ = (exS T N M W sc D σ s).bind fun fl => match fl with
      | .nx σ' => exT T x N M W sc D (l ++ r) σ'
      | .rt y o => some (y, o)
      | _ => none := by
      conv => lhs; unfold exT
      split
      · cases h.1
      · rfl
    show exT T x N M W sc D (s :: (l ++ r)) σ = exK T N M W sc D σ s (fun σ' => exLK (exK T N M W sc D) l σ' _ _ _) _ _
    rw [e, exK_eq]
    congr 1
    funext fl
    cases fl with
    | nx σ' => exact exT_pre l r σ' h.2
    | _ => rfl
end Pv

namespace Pv
open PySem L2

/-- a constant of the module, told by what stands in the fragment -/
def all2 {α β : Type} (f : α → β → Bool) : List α → List β → Bool
  | [], [] => true
  | a :: as, b :: bs => f a b && all2 f as bs
  | _, _ => false
def tupOf (K : PySem.W.Frag) (a : Addr) : Option (List Value) := match List.lookup a K with
  | some ⟨.type n, _, .seq its _, _⟩ => if n == "tuple" && decide (its.size ≤ 1000) then some its.toList else none
  | _ => none
def repV (K : PySem.W.Frag) : Nat → Value → PV → Bool
  | 0, _, _ => false
  | n + 1, u, x => match u, x with
    | .none, .non => true
    | .bool b, .bl c => b == c
    | .int i _, .int j => decide (i = j)
    | .str i _, .str j => decide (i = j)
    | .ref a, .tup xs => match tupOf K a with
      | some us => all2 (repV K n) us xs
      | none => false
    | _, _ => false
theorem all2_ok {K : PySem.W.Frag} {n : Nat} (IH : ∀ u x, repV K n u x = true → ∃ v, RelV v u ∧ ∀ F, Rep K F v x) : ∀ us xs, all2 (repV K n) us xs = true → ∃ vs, Vals vs us ∧ ∀ F, Reps K F vs xs
  | [], [], _ => ⟨[], .nil, fun _ => .nil⟩
  | u :: us, x :: xs, h => by
    unfold all2 at h
    rw [Bool.and_eq_true] at h
    obtain ⟨v, a, b⟩ := IH u x h.1
    obtain ⟨vs, c, d⟩ := all2_ok IH us xs h.2
    exact ⟨v :: vs, .cons a c, fun F => .cons (b F) (d F)⟩
  | [], _ :: _, h => by cases h
  | _ :: _, [], h => by cases h
theorem tupOf_ok {K : PySem.W.Frag} {a : Addr} {us : List Value} (h : tupOf K a = some us) : ∃ o its n, List.lookup a K = some o ∧ o.cls = Value.type "tuple" ∧ o.data = Data.seq its n ∧ its.size ≤ 1000 ∧ its.toList = us := by
  unfold tupOf at h
  split at h
  · rename_i n dict its ep sl e
    split at h
    · rename_i q
      rw [Bool.and_eq_true, decide_eq_true_eq, beq_iff_eq] at q
      obtain ⟨rfl, q2⟩ := q
      cases h
      exact ⟨_, _, _, e, rfl, rfl, q2, rfl⟩
    · cases h
  · cases h
theorem repV_ok {K : PySem.W.Frag} : ∀ n u x, repV K n u x = true → ∃ v, RelV v u ∧ ∀ F, Rep K F v x
  | 0, _, _, h => by cases h
  | n + 1, u, x, h => by
    unfold repV at h
    split at h
    · exact ⟨.non, rfl, fun _ => .non⟩
    · rename_i b c
      rw [beq_iff_eq] at h
      subst h
      exact ⟨.bl _, rfl, fun _ => .bl _⟩
    · rename_i i t j
      rw [decide_eq_true_eq] at h
      subst h
      exact ⟨.int _, ⟨t, rfl⟩, fun _ => .int _⟩
    · rename_i i t j
      rw [decide_eq_true_eq] at h
      subst h
      exact ⟨.str _, ⟨t, rfl⟩, fun _ => .str _⟩
    · rename_i a xs
      split at h
      · rename_i us e
        obtain ⟨o, its, m, h1, h2, h3, h4, rfl⟩ := tupOf_ok e
        obtain ⟨vs, c, d⟩ := all2_ok (repV_ok n) _ _ h
        exact ⟨.ref a, rfl, fun F => .tup (.inr ⟨o, its, m, h1, h2, h3, Nat.le_trans h4 (by decide), c⟩) (d F)⟩
      · cases h
    · cases h
theorem con_ok {K : PySem.W.Frag} {mg : Str → Option Value} {h : Heap} {x : Str} {u : Value} {p : PV} {n : Nat} (X : K.In h) (G : h.Ns mainGlobals mg) (a : PySem.W.nsIn K mainGlobals x = some (some u)) (r : repV K n u p = true) :
    ∃ u v, mg x = some u ∧ RelV v u ∧ ∀ F, Rep K F v p := by
  obtain ⟨v, b, c⟩ := repV_ok n u p r
  exact ⟨u, v, PySem.W.mg_of X G a, b, c⟩

/-- an error of a class is what «except class» names -/
theorem exm_me {K : PySem.W.Frag} {S : Addr} (h1 : PySem.W.subIn K (.ref S) (.type "BaseException") = some true) (h2 : PySem.W.isClsIn K S = true) (h3 : PySem.W.typeIn K (.ref S) = some (.type "type")) (h4 : PySem.W.subIn K (.ref S) (.ref S) = some true) :
    PySem.W.exmOne K (.ref S) (.ref S) = some true := by
  have e1 : (PySem.W.subIn K (.ref S) (.type "BaseException") == some true) = true := by rw [h1] <;> rfl
  have e2 : ((PySem.W.clsIn K S).isSome && PySem.W.typeIn K (.ref S) == some (.type "type")) = true := by
    have h2' : (PySem.W.clsIn K S).isSome = true := h2
    rw [h2', h3] <;> rfl
  show (if (PySem.W.subIn K (.ref S) (.type "BaseException") == some true) = true then (if ((PySem.W.clsIn K S).isSome && PySem.W.typeIn K (.ref S) == some (.type "type")) = true then PySem.W.subIn K (.ref S) (.ref S) else none) else none) = some true
  rw [if_pos e1, if_pos e2]
  exact h4
theorem cls_ok {K : PySem.W.Frag} {mg : Str → Option Value} {h : Heap} {x : Str} {CF : Addr} (X : K.In h) (G : h.Ns mainGlobals mg) (a : PySem.W.nsIn K mainGlobals x = some (some (.ref CF)))
    (xF : PySem.W.excIn K CF [.type "ValueError", .type "Exception", .type "BaseException", .type "object"] "ValueError.__new__" = true) (kF : PySem.W.keepIn K (.ref CF) = true) (bF : PySem.W.subIn K (.ref CF) (.type "BaseException") = some true)
    (tF : PySem.W.typeIn K (.ref CF) = some (.type "type")) (iF : PySem.W.isClsIn K CF = true) (sF : PySem.W.subIn K (.ref CF) (.ref CF) = some true) : ClsX K mg x CF :=
  ⟨PySem.W.mg_of X G a, xF, kF, bF, tF, exm_me bF iF tF sF⟩
/-- the law's own end, of a def that is read some other way -/
theorem law_spG {K : PySem.W.Frag} {f : List PV → Out} {H : Hp} {a : Addr} {ns : List Int} (h : f [.lst (ns.map .int)] = some (.bl true, false)) (hS : SqL K H a (ns.map V.int)) : spOf K 1 f [.ref a] H (fun v _ => v = .bl true) fun _ _ _ => False := by
  refine ⟨rfl, H, [.lst (ns.map .int)], .bl true, false, Same.refl _, .cons (.lst hS (Reps.ints ns)) .nil, h, fun v F' H' g res => ?_⟩
  unfold Res at res
  rw [if_neg Bool.false_ne_true] at res
  exact res.ofBl
end Pv

/-! ## the text by places -/
namespace K77
open PySem L2 Pv
def top (i : Nat) : Stmt := PySem.Challenge.pw_trueshop_k77_moments_moved_and_joined.main.body.getD i (.Pass ⟨0, 0, 0, 0⟩)
def d_common : FD := ⟨["a", "b"], ["a", "b"], defScope (top 4), defBody (top 4), [(2, [])], [], false⟩
def d_fraction : FD := ⟨["number", "divisor", "shared"], ["number", "divisor"], defScope (top 5), defBody (top 5), [(1, [.int (1)]), (2, [])], [], false⟩
def d_plus : FD := ⟨["a", "b"], ["a", "b"], defScope (top 6), defBody (top 6), [(2, [])], [], false⟩
def d_minus : FD := ⟨["a", "b"], ["a", "b"], defScope (top 7), defBody (top 7), [(2, [])], [], false⟩
def d_times : FD := ⟨["a", "b"], ["a", "b"], defScope (top 8), defBody (top 8), [(2, [])], [], false⟩
def d_over : FD := ⟨["a", "b"], ["a", "b"], defScope (top 9), defBody (top 9), [(2, [])], [], false⟩
def d_negative : FD := ⟨["a"], ["a"], defScope (top 10), defBody (top 10), [(1, [])], [], false⟩
def d_total : FD := ⟨["row", "number", "divisor", "one"], ["row"], defScope (top 11), defBody (top 11), [(1, [])], [], false⟩
def d_dot : FD := ⟨["a", "b"], ["a", "b"], defScope (top 13), defBody (top 13), [(2, [])], [], false⟩
def d_added : FD := ⟨["a", "b", "firsts", "k"], ["a", "b"], defScope (top 17), defBody (top 17), [(2, [])], [], false⟩
def d_joined_moments : FD := ⟨["rows", "found", "row"], ["rows"], defScope (top 18), defBody (top 18), [(1, [])], [], false⟩
def d_shifted_moments : FD := ⟨["found", "shift", "more", "row", "at", "volume", "firsts", "seconds", "part", "k", "i", "j"], ["found", "shift"], defScope (top 19), defBody (top 19), [(2, [])], [], false⟩
def d_weighed : FD := ⟨["found", "factor", "firsts", "one"], ["found", "factor"], defScope (top 20), defBody (top 20), [(2, [])], [], false⟩
def d_centre_of : FD := ⟨["found", "one"], ["found"], defScope (top 21), defBody (top 21), [(1, [])], [], false⟩
def d_about : FD := ⟨["found", "point", "part"], ["found", "point"], defScope (top 22), defBody (top 22), [(2, [])], [], false⟩
def d_turning : FD := ⟨["found", "point", "direction", "seconds", "length", "spread", "at", "many", "i", "j"], ["found", "point", "direction"], defScope (top 23), defBody (top 23), [(3, [])], [], false⟩
def d__law_cell : FD := ⟨["script", "k"], ["script", "k"], defScope (top 25), defBody (top 25), [(2, [])], [], false⟩
def d__law_row : FD := ⟨["cell", "size", "base", "row", "number", "k", "mixed"], ["cell", "size", "base"], defScope (top 26), defBody (top 26), [(3, [])], [], true⟩
def d__law_fraction : FD := ⟨["number", "divisor", "a", "b", "k"], ["number", "divisor"], defScope (top 27), defBody (top 27), [(2, [])], [], false⟩
def d__law_plus : FD := ⟨["a", "b"], ["a", "b"], defScope (top 28), defBody (top 28), [(2, [])], [], false⟩
def d__law_minus : FD := ⟨["a", "b"], ["a", "b"], defScope (top 29), defBody (top 29), [(2, [])], [], false⟩
def d__law_times : FD := ⟨["a", "b"], ["a", "b"], defScope (top 30), defBody (top 30), [(2, [])], [], false⟩
def d__law_over : FD := ⟨["a", "b"], ["a", "b"], defScope (top 31), defBody (top 31), [(2, [])], [], false⟩
def d__law_moved : FD := ⟨["point", "shift", "k"], ["point", "shift"], defScope (top 32), defBody (top 32), [(2, [])], [], false⟩
def d__law_back : FD := ⟨["point", "shift", "k"], ["point", "shift"], defScope (top 33), defBody (top 33), [(2, [])], [], false⟩
def d__law_direction : FD := ⟨["cell", "most", "row"], ["cell", "most"], defScope (top 34), defBody (top 34), [(2, [])], [], false⟩
def d__law_middle : FD := ⟨["a", "b"], ["a", "b"], defScope (top 35), defBody (top 35), [(2, [])], [], false⟩
def d__law_pairs : FD := ⟨[], [], defScope (top 36), defBody (top 36), [(0, [])], [], true⟩
def d__law_no_moments : FD := ⟨[], [], defScope (top 37), defBody (top 37), [(0, [])], [], false⟩
def d__law_added : FD := ⟨["a", "b", "firsts", "k"], ["a", "b"], defScope (top 38), defBody (top 38), [(2, [])], [], false⟩
def d__law_centre : FD := ⟨["found", "one"], ["found"], defScope (top 39), defBody (top 39), [(1, [])], [], false⟩
def d__law_box_moments : FD := ⟨["low", "high", "widths", "middles", "volume", "seconds", "i", "j", "found", "k", "one"], ["low", "high"], defScope (top 40), defBody (top 40), [(2, [])], [], false⟩
def d__law_corners : FD := ⟨["cell", "draw", "low", "high", "k"], ["cell"], defScope (top 41), defBody (top 41), [(1, [])], [], false⟩
def d__law_point : FD := ⟨["cell", "draw", "k"], ["cell"], defScope (top 42), defBody (top 42), [(1, [])], [], false⟩
def d__law_turning : FD := ⟨["seconds", "direction", "found", "x", "y", "z", "many", "at"], ["seconds", "direction"], defScope (top 43), defBody (top 43), [(2, [])], [], false⟩
def d_law : FD := ⟨["script", "boxes", "rows", "shift", "moved", "due", "row", "handed", "factor", "told", "point", "seconds", "box", "direction", "empty", "low", "high", "part", "k", "one"], ["script"], defScope (top 44), defBody (top 44), [(1, [])], [], false⟩
def prog : Pg := ⟨[(("common" : Str), d_common), (("fraction" : Str), d_fraction), (("plus" : Str), d_plus), (("minus" : Str), d_minus), (("times" : Str), d_times), (("over" : Str), d_over), (("negative" : Str), d_negative), (("total" : Str), d_total), (("dot" : Str), d_dot), (("added" : Str), d_added), (("joined_moments" : Str), d_joined_moments), (("shifted_moments" : Str), d_shifted_moments), (("weighed" : Str), d_weighed), (("centre_of" : Str), d_centre_of), (("about" : Str), d_about), (("turning" : Str), d_turning), (("_law_cell" : Str), d__law_cell), (("_law_row" : Str), d__law_row), (("_law_fraction" : Str), d__law_fraction), (("_law_plus" : Str), d__law_plus), (("_law_minus" : Str), d__law_minus), (("_law_times" : Str), d__law_times), (("_law_over" : Str), d__law_over), (("_law_moved" : Str), d__law_moved), (("_law_back" : Str), d__law_back), (("_law_direction" : Str), d__law_direction), (("_law_middle" : Str), d__law_middle), (("_law_pairs" : Str), d__law_pairs), (("_law_no_moments" : Str), d__law_no_moments), (("_law_added" : Str), d__law_added), (("_law_centre" : Str), d__law_centre), (("_law_box_moments" : Str), d__law_box_moments), (("_law_corners" : Str), d__law_corners), (("_law_point" : Str), d__law_point), (("_law_turning" : Str), d__law_turning), (("law" : Str), d_law)], [(("PAIRS" : Str), .tup [.tup [.int (0), .int (0)], .tup [.int (1), .int (1)], .tup [.int (2), .int (2)], .tup [.int (0), .int (1)], .tup [.int (0), .int (2)], .tup [.int (1), .int (2)]]), (("EMPTY" : Str), .tup [.tup [.int (0), .int (1)], .tup [.tup [.int (0), .int (1)], .tup [.int (0), .int (1)], .tup [.int (0), .int (1)]], .tup [.tup [.int (0), .int (1)], .tup [.int (0), .int (1)], .tup [.int (0), .int (1)], .tup [.int (0), .int (1)], .tup [.int (0), .int (1)], .tup [.int (0), .int (1)]]])], [((33, 4), [(3, false)]), ((48, 4), [(2, false)]), ((55, 4), [(4, false), (8, false), (10, false), (11, false), (2, true)]), ((73, 4), [(6, false), (7, false), (8, false), (9, false)]), ((86, 4), [(5, false), (6, false)]), ((98, 4), [(4, false)]), ((138, 4), [(6, false), (7, false), (8, false), (3, true)]), ((155, 4), [(6, false), (7, false)]), ((157, 4), [(6, false), (7, false)]), ((169, 4), [(6, false)]), ((184, 4), [(12, false), (17, false)])], [(57, 8), (59, 4), (121, 4), (136, 4), (139, 8), (143, 4), (148, 4), (151, 4)], 40, 40, 100000⟩
theorem sc_common : FnScope d_common.N d_common.ps d_common.sc := ⟨rfl, rfl, rfl, by decide +kernel, rfl, by decide +kernel, by decide +kernel⟩
theorem sc_fraction : FnScope d_fraction.N d_fraction.ps d_fraction.sc := ⟨rfl, rfl, rfl, by decide +kernel, rfl, by decide +kernel, by decide +kernel⟩
theorem sc_plus : FnScope d_plus.N d_plus.ps d_plus.sc := ⟨rfl, rfl, rfl, by decide +kernel, rfl, by decide +kernel, by decide +kernel⟩
theorem sc_minus : FnScope d_minus.N d_minus.ps d_minus.sc := ⟨rfl, rfl, rfl, by decide +kernel, rfl, by decide +kernel, by decide +kernel⟩
theorem sc_times : FnScope d_times.N d_times.ps d_times.sc := ⟨rfl, rfl, rfl, by decide +kernel, rfl, by decide +kernel, by decide +kernel⟩
theorem sc_over : FnScope d_over.N d_over.ps d_over.sc := ⟨rfl, rfl, rfl, by decide +kernel, rfl, by decide +kernel, by decide +kernel⟩
theorem sc_negative : FnScope d_negative.N d_negative.ps d_negative.sc := ⟨rfl, rfl, rfl, by decide +kernel, rfl, by decide +kernel, by decide +kernel⟩
theorem sc_total : FnScope d_total.N d_total.ps d_total.sc := ⟨rfl, rfl, rfl, by decide +kernel, rfl, by decide +kernel, by decide +kernel⟩
theorem sc_dot : FnScope d_dot.N d_dot.ps d_dot.sc := ⟨rfl, rfl, rfl, by decide +kernel, rfl, by decide +kernel, by decide +kernel⟩
theorem sc_added : FnScope d_added.N d_added.ps d_added.sc := ⟨rfl, rfl, rfl, by decide +kernel, rfl, by decide +kernel, by decide +kernel⟩
theorem sc_joined_moments : FnScope d_joined_moments.N d_joined_moments.ps d_joined_moments.sc := ⟨rfl, rfl, rfl, by decide +kernel, rfl, by decide +kernel, by decide +kernel⟩
theorem sc_shifted_moments : FnScope d_shifted_moments.N d_shifted_moments.ps d_shifted_moments.sc := ⟨rfl, rfl, rfl, by decide +kernel, rfl, by decide +kernel, by decide +kernel⟩
theorem sc_weighed : FnScope d_weighed.N d_weighed.ps d_weighed.sc := ⟨rfl, rfl, rfl, by decide +kernel, rfl, by decide +kernel, by decide +kernel⟩
theorem sc_centre_of : FnScope d_centre_of.N d_centre_of.ps d_centre_of.sc := ⟨rfl, rfl, rfl, by decide +kernel, rfl, by decide +kernel, by decide +kernel⟩
theorem sc_about : FnScope d_about.N d_about.ps d_about.sc := ⟨rfl, rfl, rfl, by decide +kernel, rfl, by decide +kernel, by decide +kernel⟩
theorem sc_turning : FnScope d_turning.N d_turning.ps d_turning.sc := ⟨rfl, rfl, rfl, by decide +kernel, rfl, by decide +kernel, by decide +kernel⟩
theorem sc__law_cell : FnScope d__law_cell.N d__law_cell.ps d__law_cell.sc := ⟨rfl, rfl, rfl, by decide +kernel, rfl, by decide +kernel, by decide +kernel⟩
theorem sc__law_row : FnScope d__law_row.N d__law_row.ps d__law_row.sc := ⟨rfl, rfl, rfl, by decide +kernel, rfl, by decide +kernel, by decide +kernel⟩
theorem sc__law_fraction : FnScope d__law_fraction.N d__law_fraction.ps d__law_fraction.sc := ⟨rfl, rfl, rfl, by decide +kernel, rfl, by decide +kernel, by decide +kernel⟩
theorem sc__law_plus : FnScope d__law_plus.N d__law_plus.ps d__law_plus.sc := ⟨rfl, rfl, rfl, by decide +kernel, rfl, by decide +kernel, by decide +kernel⟩
theorem sc__law_minus : FnScope d__law_minus.N d__law_minus.ps d__law_minus.sc := ⟨rfl, rfl, rfl, by decide +kernel, rfl, by decide +kernel, by decide +kernel⟩
theorem sc__law_times : FnScope d__law_times.N d__law_times.ps d__law_times.sc := ⟨rfl, rfl, rfl, by decide +kernel, rfl, by decide +kernel, by decide +kernel⟩
theorem sc__law_over : FnScope d__law_over.N d__law_over.ps d__law_over.sc := ⟨rfl, rfl, rfl, by decide +kernel, rfl, by decide +kernel, by decide +kernel⟩
theorem sc__law_moved : FnScope d__law_moved.N d__law_moved.ps d__law_moved.sc := ⟨rfl, rfl, rfl, by decide +kernel, rfl, by decide +kernel, by decide +kernel⟩
theorem sc__law_back : FnScope d__law_back.N d__law_back.ps d__law_back.sc := ⟨rfl, rfl, rfl, by decide +kernel, rfl, by decide +kernel, by decide +kernel⟩
theorem sc__law_direction : FnScope d__law_direction.N d__law_direction.ps d__law_direction.sc := ⟨rfl, rfl, rfl, by decide +kernel, rfl, by decide +kernel, by decide +kernel⟩
theorem sc__law_middle : FnScope d__law_middle.N d__law_middle.ps d__law_middle.sc := ⟨rfl, rfl, rfl, by decide +kernel, rfl, by decide +kernel, by decide +kernel⟩
theorem sc__law_pairs : FnScope d__law_pairs.N d__law_pairs.ps d__law_pairs.sc := ⟨rfl, rfl, rfl, by decide +kernel, rfl, by decide +kernel, by decide +kernel⟩
theorem sc__law_no_moments : FnScope d__law_no_moments.N d__law_no_moments.ps d__law_no_moments.sc := ⟨rfl, rfl, rfl, by decide +kernel, rfl, by decide +kernel, by decide +kernel⟩
theorem sc__law_added : FnScope d__law_added.N d__law_added.ps d__law_added.sc := ⟨rfl, rfl, rfl, by decide +kernel, rfl, by decide +kernel, by decide +kernel⟩
theorem sc__law_centre : FnScope d__law_centre.N d__law_centre.ps d__law_centre.sc := ⟨rfl, rfl, rfl, by decide +kernel, rfl, by decide +kernel, by decide +kernel⟩
theorem sc__law_box_moments : FnScope d__law_box_moments.N d__law_box_moments.ps d__law_box_moments.sc := ⟨rfl, rfl, rfl, by decide +kernel, rfl, by decide +kernel, by decide +kernel⟩
theorem sc__law_corners : FnScope d__law_corners.N d__law_corners.ps d__law_corners.sc := ⟨rfl, rfl, rfl, by decide +kernel, rfl, by decide +kernel, by decide +kernel⟩
theorem sc__law_point : FnScope d__law_point.N d__law_point.ps d__law_point.sc := ⟨rfl, rfl, rfl, by decide +kernel, rfl, by decide +kernel, by decide +kernel⟩
theorem sc__law_turning : FnScope d__law_turning.N d__law_turning.ps d__law_turning.sc := ⟨rfl, rfl, rfl, by decide +kernel, rfl, by decide +kernel, by decide +kernel⟩
theorem sc_law : FnScope d_law.N d_law.ps d_law.sc := ⟨rfl, rfl, rfl, by decide +kernel, rfl, by decide +kernel, by decide +kernel⟩
end K77

namespace K77
open PySem L2 Pv
def mm_over (C : Str → List PV → Out) (v_a v_b : PV) : Out :=
  ((((ix v_a (.int 0)).bind fun p1 => (ix v_b (.int 1)).bind fun p2 => op2 .Mult p1.1 p2.1).bind fun p6 => (((ix v_a (.int 1)).bind fun p3 => (ix v_b (.int 0)).bind fun p4 => op2 .Mult p3.1 p4.1).bind fun p5 => some [p5.1]).map fun q7 => p6.1 :: q7).bind fun q8 => cl1 (C "fraction" (q8 ++ []))).bind fun p9 => some (p9.1, p9.2)
def mm_negative (C : Str → List PV → Out) (v_a : PV) : Out :=
  ((((ix v_a (.int 0)).bind fun p1 => neg1 p1.1).bind fun p3 => ((ix v_a (.int 1)).bind fun p2 => some [p2.1]).map fun q4 => p3.1 :: q4).bind fun q5 => sh (.tup q5)).bind fun p6 => some (p6.1, p6.2)
def mm_total (C : Str → List PV → Out) (v_row : PV) : Out :=
  jn (fun (s2 : PV × PV) => jn (fun (s4 : PV × PV) => (cl1 (C "fraction" [s4.1, s4.2])).bind fun p26 => some (p26.1, p26.2)) fun j3 => (seqOf v_row).bind fun xs25 => forC (fun x16 (s5 : PV × PV) k14 k15 => (((ix x16 (.int 1)).bind fun p17 => op2 .Mult s5.1 p17.1).bind fun p18 => ((ix x16 (.int 0)).bind fun p19 => op2 .Mult p19.1 s5.2).bind fun p20 => op2 .Add p18.1 p20.1).bind fun p21 => ((ix x16 (.int 1)).bind fun p22 => op2 .Mult s5.2 p22.1).bind fun p23 => k14 (p21.1, p23.1)) (fun (s24 : PV × PV) => j3 (s24.1, s24.2)) xs25 (s2.1, s2.2)) fun j1 => j1 ((.int 0), (.int 1))
def mm_dot (C : Str → List PV → Out) (v_a v_b : PV) : Out :=
  ((((ix v_a (.int 0)).bind fun p1 => (ix v_b (.int 0)).bind fun p2 => op2 .Mult p1.1 p2.1).bind fun p3 => ((ix v_a (.int 1)).bind fun p4 => (ix v_b (.int 1)).bind fun p5 => op2 .Mult p4.1 p5.1).bind fun p6 => op2 .Add p3.1 p6.1).bind fun p7 => ((ix v_a (.int 2)).bind fun p8 => (ix v_b (.int 2)).bind fun p9 => op2 .Mult p8.1 p9.1).bind fun p10 => op2 .Add p7.1 p10.1).bind fun p11 => some (p11.1, p11.2)
def mm_added (C : Str → List PV → Out) (v_a v_b : PV) : Out :=
  jn (fun (s2 : PV) => (((((ix v_a (.int 0)).bind fun p17 => ((ix v_b (.int 0)).bind fun p16 => some [p16.1]).map fun q18 => p17.1 :: q18).bind fun q19 => cl1 (C "plus" (q19 ++ []))).bind fun p34 => ((((((rng1 (.int 6)).bind fun xs22 => (compM (fun x20 => ((((ix v_a (.int 2)).bind fun p23 => ix p23.1 x20).bind fun p26 => (((ix v_b (.int 2)).bind fun p24 => ix p24.1 x20).bind fun p25 => some [p25.1]).map fun q27 => p26.1 :: q27).bind fun q28 => cl1 (C "plus" (q28 ++ []))).bind fun p29 => some (some p29.1)) xs22).bind fun ys21 => some (.lst ys21, true)).bind fun p30 => some [p30.1]).bind fun q31 => bltV "tuple" q31).bind fun p32 => some [p32.1]).map fun q33 => s2 :: q33).map fun q35 => p34.1 :: q35).bind fun q36 => sh (.tup q36)).bind fun p37 => some (p37.1, p37.2)) fun j1 => ((((rng1 (.int 3)).bind fun xs5 => (compM (fun x3 => ((((ix v_a (.int 1)).bind fun p6 => ix p6.1 x3).bind fun p9 => (((ix v_b (.int 1)).bind fun p7 => ix p7.1 x3).bind fun p8 => some [p8.1]).map fun q10 => p9.1 :: q10).bind fun q11 => cl1 (C "plus" (q11 ++ []))).bind fun p12 => some (some p12.1)) xs5).bind fun ys4 => some (.lst ys4, true)).bind fun p13 => some [p13.1]).bind fun q14 => bltV "tuple" q14).bind fun p15 => j1 p15.1
def mm_joined_moments (C : Str → List PV → Out) (v_rows : PV) : Out :=
  jn (fun (s2 : PV) => jn (fun (s4 : PV) => some (s4, false)) fun j3 => (seqOf v_rows).bind fun xs13 => forC (fun x10 (s5 : PV) k8 k9 => (cl1 (C "added" [s5, x10])).bind fun p11 => k8 p11.1) (fun (s12 : PV) => j3 s12) xs13 s2) fun j1 => j1 (.tup [.tup [.int 0, .int 1], .tup [.tup [.int 0, .int 1], .tup [.int 0, .int 1], .tup [.int 0, .int 1]], .tup [.tup [.int 0, .int 1], .tup [.int 0, .int 1], .tup [.int 0, .int 1], .tup [.int 0, .int 1], .tup [.int 0, .int 1], .tup [.int 0, .int 1]]])
def mm_shifted_moments (C : Str → List PV → Out) (v_found v_shift : PV) : Out :=
  jn (fun (s2 : List PV × List PV × PV × PV × PV) => jn (fun (s17 : PV × List PV) => ((((bltV "tuple" [s17.1]).bind fun p85 => ((bltV "tuple" [(.lst s17.2)]).bind fun p84 => some [p84.1]).map fun q86 => p85.1 :: q86).map fun q87 => s2.2.2.1 :: q87).bind fun q88 => sh (.tup q88)).bind fun p89 => some (p89.1, p89.2)) fun j16 => (rng1 (.int 6)).bind fun xs83 => forC (fun x62 (s39 : List PV) k60 k61 => (ix (.tup [.tup [.int 0, .int 0], .tup [.int 1, .int 1], .tup [.int 2, .int 2], .tup [.int 0, .int 1], .tup [.int 0, .int 2], .tup [.int 1, .int 2]]) x62).bind fun p64 => (unT 2 p64.1).bind fun vs63 => (((((ix v_shift (vs63.getD 0 .non)).bind fun p66 => ((ix s2.2.2.2.1 (vs63.getD 1 .non)).bind fun p65 => some [p65.1]).map fun q67 => p66.1 :: q67).bind fun q68 => cl1 (C "times" (q68 ++ []))).bind fun p74 => ((((ix v_shift (vs63.getD 1 .non)).bind fun p70 => ((ix (.lst s2.1) (vs63.getD 0 .non)).bind fun p69 => some [p69.1]).map fun q71 => p70.1 :: q71).bind fun q72 => cl1 (C "times" (q72 ++ []))).bind fun p73 => some [p73.1]).map fun q75 => p74.1 :: q75).bind fun q76 => cl1 (C "plus" (q76 ++ []))).bind fun p77 => (((ix s2.2.2.2.2 x62).bind fun p78 => some [p78.1, p77.1]).bind fun q79 => cl1 (C "plus" (q79 ++ []))).bind fun p80 => (pushO s39 p80.1).bind fun ys81 => k60 ys81) (fun (s82 : List PV) => j16 ((.lst s2.1), s82)) xs83 s2.2.1) fun j1 => (unT 3 v_found).bind fun vs3 => (ownO ((rng1 (.int 3)).bind fun xs6 => (compM (fun x4 => (((ix (vs3.getD 1 .non) x4).bind fun p11 => (((((ix v_shift x4).bind fun p7 => some [p7.1]).map fun q8 => (vs3.getD 0 .non) :: q8).bind fun q9 => cl1 (C "times" (q9 ++ []))).bind fun p10 => some [p10.1]).map fun q12 => p11.1 :: q12).bind fun q13 => cl1 (C "plus" (q13 ++ []))).bind fun p14 => some (some p14.1)) xs6).bind fun ys5 => some (.lst ys5, true))).bind fun ys15 => j1 (ys15, [], (vs3.getD 0 .non), (vs3.getD 1 .non), (vs3.getD 2 .non))
def mm_weighed (C : Str → List PV → Out) (v_found v_factor : PV) : Out :=
  (((((ix v_found (.int 1)).bind fun p5 => seqOf p5.1).bind fun xs3 => (compM (fun x1 => (cl1 (C "times" [v_factor, x1])).bind fun p4 => some (some p4.1)) xs3).bind fun ys2 => some (.lst ys2, true)).bind fun p6 => some [p6.1]).bind fun q7 => bltV "tuple" q7).bind fun p8 => ((((((ix v_found (.int 0)).bind fun p9 => some [p9.1]).map fun q10 => v_factor :: q10).bind fun q11 => cl1 (C "times" (q11 ++ []))).bind fun p21 => (((((((ix v_found (.int 2)).bind fun p16 => seqOf p16.1).bind fun xs14 => (compM (fun x12 => (cl1 (C "times" [v_factor, x12])).bind fun p15 => some (some p15.1)) xs14).bind fun ys13 => some (.lst ys13, true)).bind fun p17 => some [p17.1]).bind fun q18 => bltV "tuple" q18).bind fun p19 => some [p19.1]).map fun q20 => p8.1 :: q20).map fun q22 => p21.1 :: q22).bind fun q23 => sh (.tup q23)).bind fun p24 => some (p24.1, p24.2)
def mm_centre_of (C : Str → List PV → Out) (v_found : PV) : Out :=
  (((ix v_found (.int 0)).bind fun p13 => ix p13.1 (.int 0)).bind fun p14 => cmp .Eq p14.1 (.int 0)).bind fun t1 => if t1 then none else (((((ix v_found (.int 1)).bind fun p9 => seqOf p9.1).bind fun xs4 => (compM (fun x2 => ((((ix v_found (.int 0)).bind fun p5 => some [p5.1]).map fun q6 => x2 :: q6).bind fun q7 => cl1 (C "over" (q7 ++ []))).bind fun p8 => some (some p8.1)) xs4).bind fun ys3 => some (.lst ys3, true)).bind fun p10 => some [p10.1]).bind fun q11 => bltV "tuple" q11).bind fun p12 => some (p12.1, p12.2)
def mm_about (C : Str → List PV → Out) (v_found v_point : PV) : Out :=
  ((((((seqOf v_point).bind fun xs3 => (compM (fun x1 => (cl1 (C "negative" [x1])).bind fun p4 => some (some p4.1)) xs3).bind fun ys2 => some (.lst ys2, true)).bind fun p5 => some [p5.1]).map fun q6 => v_found :: q6).bind fun q7 => cl1 (C "shifted_moments" (q7 ++ []))).bind fun p8 => ix p8.1 (.int 2)).bind fun p9 => some (p9.1, p9.2)
def mm_turning (C : Str → List PV → Out) (v_found v_point v_direction : PV) : Out :=
  jn (fun (s2 : PV × PV × PV) => jn (fun (s13 : PV) => ((((cl1 (C "fraction" [s2.2.1, (.int 1)])).bind fun p49 => some [p49.1]).map fun q50 => s13 :: q50).bind fun q51 => cl1 (C "over" (q51 ++ []))).bind fun p52 => some (p52.1, p52.2)) fun j12 => (rng1 (.int 6)).bind fun xs48 => forC (fun x32 (s14 : PV) k30 k31 => (ix (.tup [.tup [.int 0, .int 0], .tup [.int 1, .int 1], .tup [.int 2, .int 2], .tup [.int 0, .int 1], .tup [.int 0, .int 2], .tup [.int 1, .int 2]]) x32).bind fun p34 => (unT 2 p34.1).bind fun vs33 => (((ix v_direction (vs33.getD 0 .non)).bind fun p35 => (ix v_direction (vs33.getD 1 .non)).bind fun p36 => op2 .Mult p35.1 p36.1).bind fun p37 => ((cmp .Eq (vs33.getD 0 .non) (vs33.getD 1 .non)).bind fun b38 => if b38 then sh (.int 1) else sh (.int 2)).bind fun p39 => op2 .Mult p37.1 p39.1).bind fun p40 => ((((((ix s2.1 x32).bind fun p41 => some [p41.1, (.tup [p40.1, (.int 1)])]).bind fun q42 => cl1 (C "times" (q42 ++ []))).bind fun p43 => some [p43.1]).map fun q44 => s14 :: q44).bind fun q45 => cl1 (C "minus" (q45 ++ []))).bind fun p46 => k30 p46.1) (fun (s47 : PV) => j12 s47) xs48 s2.2.2) fun j1 => (cl1 (C "about" [v_found, v_point])).bind fun p3 => (cl1 (C "dot" [v_direction, v_direction])).bind fun p4 => (((((((sl p3.1 none (some 3)).bind fun p5 => some [p5.1]).bind fun q6 => bltV "list" q6).bind fun p7 => some [p7.1]).bind fun q8 => cl1 (C "total" (q8 ++ []))).bind fun p9 => some [p9.1, (.tup [p4.1, (.int 1)])]).bind fun q10 => cl1 (C "times" (q10 ++ []))).bind fun p11 => j1 (p3.1, p4.1, p11.1)
def mm__law_over (C : Str → List PV → Out) (v_a v_b : PV) : Out :=
  ((((ix v_a (.int 0)).bind fun p1 => (ix v_b (.int 1)).bind fun p2 => op2 .Mult p1.1 p2.1).bind fun p6 => (((ix v_a (.int 1)).bind fun p3 => (ix v_b (.int 0)).bind fun p4 => op2 .Mult p3.1 p4.1).bind fun p5 => some [p5.1]).map fun q7 => p6.1 :: q7).bind fun q8 => cl1 (C "_law_fraction" (q8 ++ []))).bind fun p9 => some (p9.1, p9.2)
def mm__law_moved (C : Str → List PV → Out) (v_point v_shift : PV) : Out :=
  ((((rng1 (.int 3)).bind fun xs3 => (compM (fun x1 => (((ix v_point x1).bind fun p5 => ((ix v_shift x1).bind fun p4 => some [p4.1]).map fun q6 => p5.1 :: q6).bind fun q7 => cl1 (C "_law_plus" (q7 ++ []))).bind fun p8 => some (some p8.1)) xs3).bind fun ys2 => some (.lst ys2, true)).bind fun p9 => some [p9.1]).bind fun q10 => bltV "tuple" q10).bind fun p11 => some (p11.1, p11.2)
def mm__law_back (C : Str → List PV → Out) (v_point v_shift : PV) : Out :=
  ((((rng1 (.int 3)).bind fun xs3 => (compM (fun x1 => (((ix v_point x1).bind fun p5 => ((ix v_shift x1).bind fun p4 => some [p4.1]).map fun q6 => p5.1 :: q6).bind fun q7 => cl1 (C "_law_minus" (q7 ++ []))).bind fun p8 => some (some p8.1)) xs3).bind fun ys2 => some (.lst ys2, true)).bind fun p9 => some [p9.1]).bind fun q10 => bltV "tuple" q10).bind fun p11 => some (p11.1, p11.2)
def mm__law_direction (C : Str → List PV → Out) (v_cell v_most : PV) : Out :=
  jn (fun (s2 : List PV) => jn (fun (s10 : List PV) => ((((ix (.lst s10) (.int 0)).bind fun p21 => op2 .Sub p21.1 v_most).bind fun p27 => (((ix (.lst s10) (.int 1)).bind fun p22 => op2 .Sub p22.1 v_most).bind fun p25 => (((ix (.lst s10) (.int 2)).bind fun p23 => op2 .Sub p23.1 v_most).bind fun p24 => some [p24.1]).map fun q26 => p25.1 :: q26).map fun q28 => p27.1 :: q28).bind fun q29 => sh (.tup q29)).bind fun p30 => some (p30.1, p30.2)) fun j9 => (((ix (.lst s2) (.int 0)).bind fun p16 => cmp .Eq p16.1 v_most).bind fun b17 => if b17 then ((ix (.lst s2) (.int 1)).bind fun p18 => cmp .Eq p18.1 v_most).bind fun b19 => if b19 then (ix (.lst s2) (.int 2)).bind fun p20 => cmp .Eq p20.1 v_most else some false else some false).bind fun t15 => if t15 then (op2 .Add v_most (.int 1)).bind fun p11 => ((bltV "int" [v_cell]).bind fun p12 => op2 .Mod p12.1 (.int 3)).bind fun p13 => (setIx s2 p13.1 p11.1).bind fun ys14 => j9 ys14 else j9 s2) fun j1 => (ownO ((((((op2 .Mult (.int 2) v_most).bind fun p3 => op2 .Add p3.1 (.int 1)).bind fun p4 => some [p4.1]).map fun q5 => (.int 3) :: q5).map fun q6 => v_cell :: q6).bind fun q7 => cl2 (C "_law_row" (q7 ++ [])))).bind fun ys8 => j1 ys8
def mm__law_middle (C : Str → List PV → Out) (v_a v_b : PV) : Out :=
  (((cl1 (C "_law_plus" [v_a, v_b])).bind fun p1 => some [p1.1, (.tup [(.int 1), (.int 2)])]).bind fun q2 => cl1 (C "_law_times" (q2 ++ []))).bind fun p3 => some (p3.1, p3.2)
def mm__law_pairs (C : Str → List PV → Out) : Out :=
  some (.lst [(.tup [(.int 0), (.int 0)]), (.tup [(.int 1), (.int 1)]), (.tup [(.int 2), (.int 2)]), (.tup [(.int 0), (.int 1)]), (.tup [(.int 0), (.int 2)]), (.tup [(.int 1), (.int 2)])], true)
def mm__law_no_moments (C : Str → List PV → Out) : Out :=
  sh (.tup [(.tup [(.int 0), (.int 1)]), (.tup [(.tup [(.int 0), (.int 1)]), (.tup [(.int 0), (.int 1)]), (.tup [(.int 0), (.int 1)])]), (.tup [(.tup [(.int 0), (.int 1)]), (.tup [(.int 0), (.int 1)]), (.tup [(.int 0), (.int 1)]), (.tup [(.int 0), (.int 1)]), (.tup [(.int 0), (.int 1)]), (.tup [(.int 0), (.int 1)])])])
def mm__law_added (C : Str → List PV → Out) (v_a v_b : PV) : Out :=
  jn (fun (s2 : PV) => (((((ix v_a (.int 0)).bind fun p17 => ((ix v_b (.int 0)).bind fun p16 => some [p16.1]).map fun q18 => p17.1 :: q18).bind fun q19 => cl1 (C "_law_plus" (q19 ++ []))).bind fun p34 => ((((((rng1 (.int 6)).bind fun xs22 => (compM (fun x20 => ((((ix v_a (.int 2)).bind fun p23 => ix p23.1 x20).bind fun p26 => (((ix v_b (.int 2)).bind fun p24 => ix p24.1 x20).bind fun p25 => some [p25.1]).map fun q27 => p26.1 :: q27).bind fun q28 => cl1 (C "_law_plus" (q28 ++ []))).bind fun p29 => some (some p29.1)) xs22).bind fun ys21 => some (.lst ys21, true)).bind fun p30 => some [p30.1]).bind fun q31 => bltV "tuple" q31).bind fun p32 => some [p32.1]).map fun q33 => s2 :: q33).map fun q35 => p34.1 :: q35).bind fun q36 => sh (.tup q36)).bind fun p37 => some (p37.1, p37.2)) fun j1 => ((((rng1 (.int 3)).bind fun xs5 => (compM (fun x3 => ((((ix v_a (.int 1)).bind fun p6 => ix p6.1 x3).bind fun p9 => (((ix v_b (.int 1)).bind fun p7 => ix p7.1 x3).bind fun p8 => some [p8.1]).map fun q10 => p9.1 :: q10).bind fun q11 => cl1 (C "_law_plus" (q11 ++ []))).bind fun p12 => some (some p12.1)) xs5).bind fun ys4 => some (.lst ys4, true)).bind fun p13 => some [p13.1]).bind fun q14 => bltV "tuple" q14).bind fun p15 => j1 p15.1
def mm__law_centre (C : Str → List PV → Out) (v_found : PV) : Out :=
  (((((ix v_found (.int 1)).bind fun p8 => seqOf p8.1).bind fun xs3 => (compM (fun x1 => ((((ix v_found (.int 0)).bind fun p4 => some [p4.1]).map fun q5 => x1 :: q5).bind fun q6 => cl1 (C "_law_over" (q6 ++ []))).bind fun p7 => some (some p7.1)) xs3).bind fun ys2 => some (.lst ys2, true)).bind fun p9 => some [p9.1]).bind fun q10 => bltV "tuple" q10).bind fun p11 => some (p11.1, p11.2)
def mm__law_box_moments (C : Str → List PV → Out) (v_low v_high : PV) : Out :=
  jn (fun (s2 : PV × List PV × PV) => jn (fun (s31 : List PV) => jn (fun (s33 : PV × List PV) => (((((((seqOf s33.1).bind fun xs121 => (compM (fun x119 => (cl1 (C "_law_times" [s2.2.2, x119])).bind fun p122 => some (some p122.1)) xs121).bind fun ys120 => some (.lst ys120, true)).bind fun p123 => some [p123.1]).bind fun q124 => bltV "tuple" q124).bind fun p126 => ((bltV "tuple" [(.lst s33.2)]).bind fun p125 => some [p125.1]).map fun q127 => p126.1 :: q127).map fun q128 => s2.2.2 :: q128).bind fun q129 => sh (.tup q129)).bind fun p130 => some (p130.1, p130.2)) fun j32 => ((cl2 (C "_law_pairs" [])).bind fun p118 => seqOf p118.1).bind fun xs117 => forC (fun x90 (s61 : List PV) k88 k89 => (unT 2 x90).bind fun vs91 => jn (fun (s93 : PV) => jn (fun (s100 : PV) => (cl1 (C "_law_times" [s2.2.2, s100])).bind fun p112 => (pushO s61 p112.1).bind fun ys113 => k88 ys113) fun j99 => (cmp .Eq (vs91.getD 0 .non) (vs91.getD 1 .non)).bind fun t111 => if t111 then ((((((((ix s2.1 (vs91.getD 0 .non)).bind fun p102 => ((ix s2.1 (vs91.getD 0 .non)).bind fun p101 => some [p101.1]).map fun q103 => p102.1 :: q103).bind fun q104 => cl1 (C "_law_times" (q104 ++ []))).bind fun p105 => some [p105.1, (.tup [(.int 1), (.int 12)])]).bind fun q106 => cl1 (C "_law_times" (q106 ++ []))).bind fun p107 => some [p107.1]).map fun q108 => s93 :: q108).bind fun q109 => cl1 (C "_law_plus" (q109 ++ []))).bind fun p110 => j99 p110.1 else j99 s93) fun j92 => (((ix (.lst s2.2.1) (vs91.getD 0 .non)).bind fun p95 => ((ix (.lst s2.2.1) (vs91.getD 1 .non)).bind fun p94 => some [p94.1]).map fun q96 => p95.1 :: q96).bind fun q97 => cl1 (C "_law_times" (q97 ++ []))).bind fun p98 => j92 p98.1) (fun (s116 : List PV) => j32 ((.lst s2.2.1), s116)) xs117 s31) fun j30 => j30 []) fun j1 => (ownO ((rng1 (.int 3)).bind fun xs5 => (compM (fun x3 => (((ix v_high x3).bind fun p7 => ((ix v_low x3).bind fun p6 => some [p6.1]).map fun q8 => p7.1 :: q8).bind fun q9 => cl1 (C "_law_minus" (q9 ++ []))).bind fun p10 => some (some p10.1)) xs5).bind fun ys4 => some (.lst ys4, true))).bind fun ys11 => (ownO ((rng1 (.int 3)).bind fun xs14 => (compM (fun x12 => (((ix v_low x12).bind fun p16 => ((ix v_high x12).bind fun p15 => some [p15.1]).map fun q17 => p16.1 :: q17).bind fun q18 => cl1 (C "_law_middle" (q18 ++ []))).bind fun p19 => some (some p19.1)) xs14).bind fun ys13 => some (.lst ys13, true))).bind fun ys20 => (((ix (.lst ys11) (.int 0)).bind fun p26 => ((((ix (.lst ys11) (.int 1)).bind fun p22 => ((ix (.lst ys11) (.int 2)).bind fun p21 => some [p21.1]).map fun q23 => p22.1 :: q23).bind fun q24 => cl1 (C "_law_times" (q24 ++ []))).bind fun p25 => some [p25.1]).map fun q27 => p26.1 :: q27).bind fun q28 => cl1 (C "_law_times" (q28 ++ []))).bind fun p29 => j1 ((.lst ys11), ys20, p29.1)
def mm__law_corners (C : Str → List PV → Out) (v_cell : PV) : Out :=
  jn (fun (s2 : PV × List PV) => (ownO ((rng1 (.int 3)).bind fun xs19 => (compM (fun x17 => (((ix (.lst s2.2) x17).bind fun p31 => (((((((op2 .Add (.int 3) x17).bind fun p20 => ix s2.1 p20.1).bind fun p21 => op2 .Mod p21.1 (.int 7)).bind fun p22 => op2 .Add (.int 1) p22.1).bind fun p27 => (((((ix s2.1 (.int 6)).bind fun p23 => op2 .FloorDiv p23.1 (.int 3)).bind fun p24 => op2 .Mod p24.1 (.int 2)).bind fun p25 => op2 .Add (.int 1) p25.1).bind fun p26 => some [p26.1]).map fun q28 => p27.1 :: q28).bind fun q29 => cl1 (C "_law_fraction" (q29 ++ []))).bind fun p30 => some [p30.1]).map fun q32 => p31.1 :: q32).bind fun q33 => cl1 (C "_law_plus" (q33 ++ []))).bind fun p34 => some (some p34.1)) xs19).bind fun ys18 => some (.lst ys18, true))).bind fun ys35 => sh (.tup [(.lst s2.2), (.lst ys35)])) fun j1 => (ownO (cl2 (C "_law_row" [v_cell, (.int 7), (.int 1000)]))).bind fun ys3 => (ownO ((rng1 (.int 3)).bind fun xs6 => (compM (fun x4 => (((((ix (.lst ys3) x4).bind fun p7 => op2 .Mod p7.1 (.int 13)).bind fun p8 => op2 .Sub p8.1 (.int 6)).bind fun p12 => ((((ix (.lst ys3) (.int 6)).bind fun p9 => op2 .Mod p9.1 (.int 3)).bind fun p10 => op2 .Add (.int 1) p10.1).bind fun p11 => some [p11.1]).map fun q13 => p12.1 :: q13).bind fun q14 => cl1 (C "_law_fraction" (q14 ++ []))).bind fun p15 => some (some p15.1)) xs6).bind fun ys5 => some (.lst ys5, true))).bind fun ys16 => j1 ((.lst ys3), ys16)
def mm__law_point (C : Str → List PV → Out) (v_cell : PV) : Out :=
  (ownO (cl2 (C "_law_row" [v_cell, (.int 3), (.int 1000)]))).bind fun ys1 => ((((rng1 (.int 3)).bind fun xs4 => (compM (fun x2 => (((((ix (.lst ys1) x2).bind fun p5 => op2 .Mod p5.1 (.int 31)).bind fun p6 => op2 .Sub p6.1 (.int 15)).bind fun p11 => (((((ix (.lst ys1) x2).bind fun p7 => op2 .FloorDiv p7.1 (.int 31)).bind fun p8 => op2 .Mod p8.1 (.int 3)).bind fun p9 => op2 .Add (.int 1) p9.1).bind fun p10 => some [p10.1]).map fun q12 => p11.1 :: q12).bind fun q13 => cl1 (C "_law_fraction" (q13 ++ []))).bind fun p14 => some (some p14.1)) xs4).bind fun ys3 => some (.lst ys3, true)).bind fun p15 => some [p15.1]).bind fun q16 => bltV "tuple" q16).bind fun p17 => some (p17.1, p17.2)
def mm__law_turning (C : Str → List PV → Out) (v_seconds v_direction : PV) : Out :=
  jn (fun (s2 : PV × PV × PV × PV) => jn (fun (s5 : PV) => jn (fun (s49 : PV) => ((((((((op2 .Mult s2.2.1 s2.2.1).bind fun p89 => (op2 .Mult s2.2.2.1 s2.2.2.1).bind fun p90 => op2 .Add p89.1 p90.1).bind fun p91 => (op2 .Mult s2.2.2.2 s2.2.2.2).bind fun p92 => op2 .Add p91.1 p92.1).bind fun p93 => some [p93.1, (.int 1)]).bind fun q94 => sh (.tup q94)).bind fun p95 => some [p95.1]).map fun q96 => s49 :: q96).bind fun q97 => cl1 (C "_law_over" (q97 ++ []))).bind fun p98 => some (p98.1, p98.2)) fun j48 => (((((((op2 .Mult (.int (-2)) s2.2.1).bind fun p73 => op2 .Mult p73.1 s2.2.2.1).bind fun p74 => some [p74.1, (.int 3)]).bind fun q75 => sh (.tup q75)).bind fun p85 => (((((op2 .Mult (.int (-2)) s2.2.1).bind fun p76 => op2 .Mult p76.1 s2.2.2.2).bind fun p77 => some [p77.1, (.int 4)]).bind fun q78 => sh (.tup q78)).bind fun p83 => (((((op2 .Mult (.int (-2)) s2.2.2.1).bind fun p79 => op2 .Mult p79.1 s2.2.2.2).bind fun p80 => some [p80.1, (.int 5)]).bind fun q81 => sh (.tup q81)).bind fun p82 => some [p82.1]).map fun q84 => p83.1 :: q84).map fun q86 => p85.1 :: q86).bind fun q87 => some (.lst q87, true)).bind fun p88 => seqOf p88.1).bind fun xs72 => forC (fun x62 (s50 : PV) k60 k61 => (unT 2 x62).bind fun vs63 => (((((((ix v_seconds (vs63.getD 1 .non)).bind fun p64 => some [p64.1]).map fun q65 => (.tup [(vs63.getD 0 .non), (.int 1)]) :: q65).bind fun q66 => cl1 (C "_law_times" (q66 ++ []))).bind fun p67 => some [p67.1]).map fun q68 => s50 :: q68).bind fun q69 => cl1 (C "_law_plus" (q69 ++ []))).bind fun p70 => k60 p70.1) (fun (s71 : PV) => j48 s71) xs72 s5) fun j4 => (((((((op2 .Mult s2.2.2.1 s2.2.2.1).bind fun p29 => (op2 .Mult s2.2.2.2 s2.2.2.2).bind fun p30 => op2 .Add p29.1 p30.1).bind fun p31 => some [p31.1, (.int 0)]).bind fun q32 => sh (.tup q32)).bind fun p44 => (((((op2 .Mult s2.2.1 s2.2.1).bind fun p33 => (op2 .Mult s2.2.2.2 s2.2.2.2).bind fun p34 => op2 .Add p33.1 p34.1).bind fun p35 => some [p35.1, (.int 1)]).bind fun q36 => sh (.tup q36)).bind fun p42 => (((((op2 .Mult s2.2.1 s2.2.1).bind fun p37 => (op2 .Mult s2.2.2.1 s2.2.2.1).bind fun p38 => op2 .Add p37.1 p38.1).bind fun p39 => some [p39.1, (.int 2)]).bind fun q40 => sh (.tup q40)).bind fun p41 => some [p41.1]).map fun q43 => p42.1 :: q43).map fun q45 => p44.1 :: q45).bind fun q46 => some (.lst q46, true)).bind fun p47 => seqOf p47.1).bind fun xs28 => forC (fun x18 (s6 : PV) k16 k17 => (unT 2 x18).bind fun vs19 => (((((((ix v_seconds (vs19.getD 1 .non)).bind fun p20 => some [p20.1]).map fun q21 => (.tup [(vs19.getD 0 .non), (.int 1)]) :: q21).bind fun q22 => cl1 (C "_law_times" (q22 ++ []))).bind fun p23 => some [p23.1]).map fun q24 => s6 :: q24).bind fun q25 => cl1 (C "_law_plus" (q25 ++ []))).bind fun p26 => k16 p26.1) (fun (s27 : PV) => j4 s27) xs28 s2.1) fun j1 => (unT 3 v_direction).bind fun vs3 => j1 ((.tup [(.int 0), (.int 1)]), (vs3.getD 0 .non), (vs3.getD 1 .non), (vs3.getD 2 .non))
def mm_law (C : Str → List PV → Out) (X : Str → List PV → Str → Bool) (v_script : PV) : Out :=
  jn (fun (s2 : PV × List PV × PV) => jn (fun (s28 : PV × PV × PV × PV) => jn (fun (s42 : PV × PV) => jn (fun (s53 : List PV) => jn (fun (s77 : PV × PV) => jn (fun (s101 : PV × List PV) => jn (fun (s123 : List PV) => ((cl1 (C "about" [s42.2, s101.1])).bind fun p182 => (bltV "tuple" [(.lst s123)]).bind fun p183 => cmp .NotEq p182.1 p183.1).bind fun t169 => if t169 then sh (.bl false) else (((cl1 (C "_law_cell" [v_script, (.int 8)])).bind fun p170 => some [p170.1, (.int 5)]).bind fun q171 => cl1 (C "_law_direction" (q171 ++ []))).bind fun p172 => ((cl1 (C "turning" [s42.2, s101.1, p172.1])).bind fun p180 => (cl1 (C "_law_turning" [(.lst s123), p172.1])).bind fun p181 => cmp .NotEq p180.1 p181.1).bind fun t173 => if t173 then sh (.bl false) else ((((((cl1 (C "weighed" [s42.2, (.tup [(.int (-1)), (.int 1)])])).bind fun p174 => some [p174.1]).map fun q175 => s42.2 :: q175).bind fun q176 => some (.lst q176, true)).bind fun p177 => some [p177.1]).bind fun q178 => cl1 (C "joined_moments" (q178 ++ []))).bind fun p179 => if X "centre_of" [p179.1] "Nought" then some ((.bl true), false) else none) fun j122 => (seqOf s2.1).bind fun xs168 => forC (fun x147 (s124 : List PV) k145 k146 => (((((ix x147 (.int 0)).bind fun p148 => some [p148.1, s101.1]).bind fun q149 => cl1 (C "_law_back" (q149 ++ []))).bind fun p153 => ((((ix x147 (.int 1)).bind fun p150 => some [p150.1, s101.1]).bind fun q151 => cl1 (C "_law_back" (q151 ++ []))).bind fun p152 => some [p152.1]).map fun q154 => p153.1 :: q154).bind fun q155 => cl1 (C "_law_box_moments" (q155 ++ []))).bind fun p156 => (ownO ((rng1 (.int 6)).bind fun xs159 => (compM (fun x157 => (((ix (.lst s124) x157).bind fun p162 => (((ix p156.1 (.int 2)).bind fun p160 => ix p160.1 x157).bind fun p161 => some [p161.1]).map fun q163 => p162.1 :: q163).bind fun q164 => cl1 (C "_law_plus" (q164 ++ []))).bind fun p165 => some (some p165.1)) xs159).bind fun ys158 => some (.lst ys158, true))).bind fun ys166 => k145 ys166) (fun (s167 : List PV) => j122 s167) xs168 s101.2) fun j100 => ((cl1 (C "weighed" [s42.2, s77.1])).bind fun p110 => ((((((((ix s42.2 (.int 2)).bind fun p115 => seqOf p115.1).bind fun xs113 => (compM (fun x111 => (cl1 (C "_law_times" [s77.1, x111])).bind fun p114 => some (some p114.1)) xs113).bind fun ys112 => some (.lst ys112, true)).bind fun p116 => some [p116.1]).bind fun q117 => bltV "tuple" q117).bind fun p118 => some [p118.1]).bind fun q119 => sh (.tup q119)).bind fun p120 => op2 .Add s77.2 p120.1).bind fun p121 => cmp .NotEq p110.1 p121.1).bind fun t102 => if t102 then sh (.bl false) else (((cl1 (C "_law_cell" [v_script, (.int 6)])).bind fun p103 => some [p103.1]).bind fun q104 => cl1 (C "_law_point" (q104 ++ []))).bind fun p105 => (ownO ((rng1 (.int 6)).bind fun xs108 => (compM (fun x106 => some (some (.tup [(.int 0), (.int 1)]))) xs108).bind fun ys107 => some (.lst ys107, true))).bind fun ys109 => j100 (p105.1, ys109)) fun j76 => ((cl1 (C "centre_of" [s42.2])).bind fun p98 => (cl1 (C "_law_centre" [s42.2])).bind fun p99 => cmp .NotEq p98.1 p99.1).bind fun t78 => if t78 then sh (.bl false) else ((((cl1 (C "_law_cell" [v_script, (.int 5)])).bind fun p79 => some [p79.1]).bind fun q80 => cl1 (C "_law_point" (q80 ++ []))).bind fun p81 => ix p81.1 (.int 0)).bind fun p82 => ((((((ix s42.2 (.int 0)).bind fun p83 => some [p83.1]).map fun q84 => p82.1 :: q84).bind fun q85 => cl1 (C "_law_times" (q85 ++ []))).bind fun p94 => ((((((ix s42.2 (.int 1)).bind fun p90 => seqOf p90.1).bind fun xs88 => (compM (fun x86 => (cl1 (C "_law_times" [p82.1, x86])).bind fun p89 => some (some p89.1)) xs88).bind fun ys87 => some (.lst ys87, true)).bind fun p91 => some [p91.1]).bind fun q92 => bltV "tuple" q92).bind fun p93 => some [p93.1]).map fun q95 => p94.1 :: q95).bind fun q96 => sh (.tup q96)).bind fun p97 => j76 (p82.1, p97.1)) fun j52 => (ownO (bltV "list" [s42.1])).bind fun ys54 => (((cl1 (C "joined_moments" [(.lst ys54)])).bind fun p71 => cmp .NotEq p71.1 s42.2).bind fun b72 => if b72 then some true else (cmp .NotEq (.lst ys54) s42.1).bind fun b73 => if b73 then some true else (cl1 (C "joined_moments" [(.lst [])])).bind fun p74 => (cl1 (C "_law_no_moments" [])).bind fun p75 => cmp .NotEq p74.1 p75.1).bind fun t55 => if t55 then sh (.bl false) else ((((ix s42.1 (.int 0)).bind fun p57 => some [p57.1]).bind fun q58 => cl1 (C "centre_of" (q58 ++ []))).bind fun p59 => ((((rng1 (.int 3)).bind fun xs62 => (compM (fun x60 => (((ix s28.2.2.1 x60).bind fun p64 => ((ix s28.2.2.2 x60).bind fun p63 => some [p63.1]).map fun q65 => p64.1 :: q65).bind fun q66 => cl1 (C "_law_middle" (q66 ++ []))).bind fun p67 => some (some p67.1)) xs62).bind fun ys61 => some (.lst ys61, true)).bind fun p68 => some [p68.1]).bind fun q69 => bltV "tuple" q69).bind fun p70 => cmp .NotEq p59.1 p70.1).bind fun t56 => if t56 then sh (.bl false) else j52 ys54) fun j41 => (seqOf (.lst s2.2.1)).bind fun xs51 => forC (fun x48 (s43 : PV) k46 k47 => (cl1 (C "_law_added" [s43, x48])).bind fun p49 => k46 p49.1) (fun (s50 : PV) => j41 ((.lst s2.2.1), s50)) xs51 s28.2.1) fun j27 => (ix s2.1 (.int 0)).bind fun p30 => (unT 2 p30.1).bind fun vs29 => (((cl1 (C "_law_moved" [(vs29.getD 0 .non), s2.2.2])).bind fun p32 => ((cl1 (C "_law_moved" [(vs29.getD 1 .non), s2.2.2])).bind fun p31 => some [p31.1]).map fun q33 => p32.1 :: q33).bind fun q34 => cl1 (C "_law_box_moments" (q34 ++ []))).bind fun p35 => ((((ix (.lst s2.2.1) (.int 0)).bind fun p38 => some [p38.1, s2.2.2]).bind fun q39 => cl1 (C "shifted_moments" (q39 ++ []))).bind fun p40 => cmp .NotEq p40.1 p35.1).bind fun t36 => if t36 then sh (.bl false) else (cl1 (C "_law_no_moments" [])).bind fun p37 => j27 (p35.1, p37.1, (vs29.getD 0 .non), (vs29.getD 1 .non))) fun j1 => (ownO (((((((cl1 (C "_law_cell" [v_script, (.int 7)])).bind fun p9 => some [p9.1]).bind fun q10 => bltV "int" q10).bind fun p11 => op2 .Mod p11.1 (.int 4)).bind fun p12 => op2 .Add (.int 1) p12.1).bind fun p13 => rng1 p13.1).bind fun xs5 => (compM (fun x3 => (((cl1 (C "_law_cell" [v_script, x3])).bind fun p6 => some [p6.1]).bind fun q7 => cl1 (C "_law_corners" (q7 ++ []))).bind fun p8 => some (some p8.1)) xs5).bind fun ys4 => some (.lst ys4, true))).bind fun ys14 => (ownO ((seqOf (.lst ys14)).bind fun xs17 => (compM (fun x15 => (((ix x15 (.int 0)).bind fun p19 => ((ix x15 (.int 1)).bind fun p18 => some [p18.1]).map fun q20 => p19.1 :: q20).bind fun q21 => cl1 (C "_law_box_moments" (q21 ++ []))).bind fun p22 => some (some p22.1)) xs17).bind fun ys16 => some (.lst ys16, true))).bind fun ys23 => (((cl1 (C "_law_cell" [v_script, (.int 4)])).bind fun p24 => some [p24.1]).bind fun q25 => cl1 (C "_law_point" (q25 ++ []))).bind fun p26 => j1 ((.lst ys14), ys23, p26.1)
end K77

namespace K77
open PySem L2 Pv
theorem b_common (C : Str → List PV → Out) (v_a v_b : PV) : runK prog (tbOf prog C) d_common [v_a, v_b] = mm_common C v_a v_b := by
  refine (runK_pos rfl).trans ?_
  unfold mm_common
  refine cut 2 (fun (s2 : PV × PV) => [.val s2.1, .val s2.2]) ?_ ?_
  · intro k14
    exact rfl
  · intro s2
    refine cut 1 (fun (s6 : PV × PV) => [.val s6.1, .val s6.2]) ?_ ?_
    · intro k13
      refine whP (fun (s7 : PV × PV) => [.val s7.1, .val s7.2]) (s2.1, s2.2) ?_ ?_ ?_ ?_
      · exact rfl
      · intro s
        exact rfl
      · intro s
        exact rfl
      · intro s7 k9 k10
        exact rfl
    · intro s6
      exact rfl
theorem b_fraction (C : Str → List PV → Out) (v_number v_divisor : PV) : runK prog (tbOf prog C) d_fraction [v_number, v_divisor] = mm_fraction C v_number v_divisor := by
  refine (runK_pos rfl).trans ?_
  unfold mm_fraction
  refine cut 2 (fun (s2 : PV) => [.val v_number, .val v_divisor, .val s2]) ?_ ?_
  · intro k15
    exact rfl
  · intro s2
    refine cut 1 (fun (s6 : PV) => [.val v_number, .val v_divisor, .val s6]) ?_ ?_
    · intro k14
      exact rfl
    · intro s6
      exact rfl
theorem b_plus (C : Str → List PV → Out) (v_a v_b : PV) : runK prog (tbOf prog C) d_plus [v_a, v_b] = mm_plus C v_a v_b := by
  refine (runK_pos rfl).trans ?_
  unfold mm_plus
  exact rfl
theorem b_minus (C : Str → List PV → Out) (v_a v_b : PV) : runK prog (tbOf prog C) d_minus [v_a, v_b] = mm_minus C v_a v_b := by
  refine (runK_pos rfl).trans ?_
  unfold mm_minus
  exact rfl
theorem b_times (C : Str → List PV → Out) (v_a v_b : PV) : runK prog (tbOf prog C) d_times [v_a, v_b] = mm_times C v_a v_b := by
  refine (runK_pos rfl).trans ?_
  unfold mm_times
  exact rfl
theorem b_over (C : Str → List PV → Out) (v_a v_b : PV) : runK prog (tbOf prog C) d_over [v_a, v_b] = mm_over C v_a v_b := by
  refine (runK_pos rfl).trans ?_
  unfold mm_over
  exact rfl
theorem b_negative (C : Str → List PV → Out) (v_a : PV) : runK prog (tbOf prog C) d_negative [v_a] = mm_negative C v_a := by
  refine (runK_pos rfl).trans ?_
  unfold mm_negative
  exact rfl
theorem b_total (C : Str → List PV → Out) (v_row : PV) : runK prog (tbOf prog C) d_total [v_row] = mm_total C v_row := by
  refine (runK_pos rfl).trans ?_
  unfold mm_total
  refine cut 2 (fun (s2 : PV × PV) => [.val v_row, .val s2.1, .val s2.2, .emp]) ?_ ?_
  · intro k28
    exact rfl
  · intro s2
    refine cut 1 (fun (s4 : PV × PV) => [.val v_row, .val s4.1, .val s4.2, .emp]) ?_ ?_
    · intro k27
      refine forP (fun (s5 : PV × PV) => [.val v_row, .val s5.1, .val s5.2, .emp]) (s2.1, s2.2) [.val v_row, .val s2.1, .val s2.2, .emp] (fun (x16 : PV) (s5 : PV × PV) => [.val v_row, .val s5.1, .val s5.2, .val x16]) ?_ ?_ ?_ ?_ ?_
      · intro K
        exact rfl
      · exact rfl
      · intro x s K
        exact rfl
      · intro s
        exact rfl
      · intro x16 s5 k14 k15
        exact rfl
    · intro s4
      exact rfl
theorem b_dot (C : Str → List PV → Out) (v_a v_b : PV) : runK prog (tbOf prog C) d_dot [v_a, v_b] = mm_dot C v_a v_b := by
  refine (runK_pos rfl).trans ?_
  unfold mm_dot
  exact rfl
theorem b_added (C : Str → List PV → Out) (v_a v_b : PV) : runK prog (tbOf prog C) d_added [v_a, v_b] = mm_added C v_a v_b := by
  refine (runK_pos rfl).trans ?_
  unfold mm_added
  refine cut 1 (fun (s2 : PV) => [.val v_a, .val v_b, .val s2, .emp]) ?_ ?_
  · intro k38
    exact rfl
  · intro s2
    exact rfl
theorem b_joined_moments (C : Str → List PV → Out) (v_rows : PV) : runK prog (tbOf prog C) d_joined_moments [v_rows] = mm_joined_moments C v_rows := by
  refine (runK_pos rfl).trans ?_
  unfold mm_joined_moments
  refine cut 1 (fun (s2 : PV) => [.val v_rows, .val s2, .emp]) ?_ ?_
  · intro k15
    exact rfl
  · intro s2
    refine cut 1 (fun (s4 : PV) => [.val v_rows, .val s4, .emp]) ?_ ?_
    · intro k14
      refine forP (fun (s5 : PV) => [.val v_rows, .val s5, .emp]) s2 [.val v_rows, .val s2, .emp] (fun (x10 : PV) (s5 : PV) => [.val v_rows, .val s5, .val x10]) ?_ ?_ ?_ ?_ ?_
      · intro K
        exact rfl
      · exact rfl
      · intro x s K
        exact rfl
      · intro s
        exact rfl
      · intro x10 s5 k8 k9
        exact rfl
    · intro s4
      exact rfl
theorem b_shifted_moments (C : Str → List PV → Out) (v_found v_shift : PV) : runK prog (tbOf prog C) d_shifted_moments [v_found, v_shift] = mm_shifted_moments C v_found v_shift := by
  refine (runK_pos rfl).trans ?_
  unfold mm_shifted_moments
  refine cut 3 (fun (s2 : List PV × List PV × PV × PV × PV) => [.val v_found, .val v_shift, .own s2.1, .own s2.2.1, .emp, .val s2.2.2.1, .val s2.2.2.2.1, .val s2.2.2.2.2, .emp, .emp, .emp, .emp]) ?_ ?_
  · intro k91
    exact rfl
  · intro s2
    refine cut 1 (fun (s17 : PV × List PV) => [.val v_found, .val v_shift, .val s17.1, .own s17.2, .emp, .val s2.2.2.1, .val s2.2.2.2.1, .val s2.2.2.2.2, .emp, .emp, .emp, .emp]) ?_ ?_
    · intro k90
      refine forP (fun (s39 : List PV) => [.val v_found, .val v_shift, .val (.lst s2.1), .own s39, .emp, .val s2.2.2.1, .val s2.2.2.2.1, .val s2.2.2.2.2, .emp, .emp, .emp, .emp]) s2.2.1 [.val v_found, .val v_shift, .own s2.1, .own s2.2.1, .emp, .val s2.2.2.1, .val s2.2.2.2.1, .val s2.2.2.2.2, .emp, .emp, .emp, .emp] (fun (x62 : PV) (s39 : List PV) => [.val v_found, .val v_shift, .val (.lst s2.1), .own s39, .val x62, .val s2.2.2.1, .val s2.2.2.2.1, .val s2.2.2.2.2, .emp, .emp, .emp, .emp]) ?_ ?_ ?_ ?_ ?_
      · intro K
        exact rfl
      · exact rfl
      · intro x s K
        exact rfl
      · intro s
        exact rfl
      · intro x62 s39 k60 k61
        exact rfl
    · intro s17
      exact rfl
theorem b_weighed (C : Str → List PV → Out) (v_found v_factor : PV) : runK prog (tbOf prog C) d_weighed [v_found, v_factor] = mm_weighed C v_found v_factor := by
  refine (runK_pos rfl).trans ?_
  unfold mm_weighed
  exact rfl
theorem b_centre_of (C : Str → List PV → Out) (v_found : PV) : runK prog (tbOf prog C) d_centre_of [v_found] = mm_centre_of C v_found := by
  refine (runK_pos rfl).trans ?_
  unfold mm_centre_of
  exact rfl
theorem b_about (C : Str → List PV → Out) (v_found v_point : PV) : runK prog (tbOf prog C) d_about [v_found, v_point] = mm_about C v_found v_point := by
  refine (runK_pos rfl).trans ?_
  unfold mm_about
  exact rfl
theorem b_turning (C : Str → List PV → Out) (v_found v_point v_direction : PV) : runK prog (tbOf prog C) d_turning [v_found, v_point, v_direction] = mm_turning C v_found v_point v_direction := by
  refine (runK_pos rfl).trans ?_
  unfold mm_turning
  refine cut 3 (fun (s2 : PV × PV × PV) => [.val v_found, .val v_point, .val v_direction, .val s2.1, .val s2.2.1, .val s2.2.2, .emp, .emp, .emp, .emp]) ?_ ?_
  · intro k54
    exact rfl
  · intro s2
    refine cut 1 (fun (s13 : PV) => [.val v_found, .val v_point, .val v_direction, .val s2.1, .val s2.2.1, .val s13, .emp, .emp, .emp, .emp]) ?_ ?_
    · intro k53
      refine forP (fun (s14 : PV) => [.val v_found, .val v_point, .val v_direction, .val s2.1, .val s2.2.1, .val s14, .emp, .emp, .emp, .emp]) s2.2.2 [.val v_found, .val v_point, .val v_direction, .val s2.1, .val s2.2.1, .val s2.2.2, .emp, .emp, .emp, .emp] (fun (x32 : PV) (s14 : PV) => [.val v_found, .val v_point, .val v_direction, .val s2.1, .val s2.2.1, .val s14, .val x32, .emp, .emp, .emp]) ?_ ?_ ?_ ?_ ?_
      · intro K
        exact rfl
      · exact rfl
      · intro x s K
        exact rfl
      · intro s
        exact rfl
      · intro x32 s14 k30 k31
        exact rfl
    · intro s13
      exact rfl
theorem b__law_cell (C : Str → List PV → Out) (v_script v_k : PV) : runK prog (tbOf prog C) d__law_cell [v_script, v_k] = mm__law_cell C v_script v_k := by
  refine (runK_pos rfl).trans ?_
  unfold mm__law_cell
  exact rfl
theorem b__law_row (C : Str → List PV → Out) (v_cell v_size v_base : PV) : runK prog (tbOf prog C) d__law_row [v_cell, v_size, v_base] = mm__law_row C v_cell v_size v_base := by
  refine (runK_pos rfl).trans ?_
  unfold mm__law_row
  refine cut 2 (fun (s2 : List PV × PV) => [.val v_cell, .val v_size, .val v_base, .own s2.1, .val s2.2, .emp, .emp]) ?_ ?_
  · intro k57
    exact rfl
  · intro s2
    refine cut 1 (fun (s4 : List PV × PV) => [.val v_cell, .val v_size, .val v_base, .own s4.1, .val s4.2, .emp, .emp]) ?_ ?_
    · intro k56
      refine forP (fun (s5 : List PV × PV) => [.val v_cell, .val v_size, .val v_base, .own s5.1, .val s5.2, .emp, .emp]) (s2.1, s2.2) [.val v_cell, .val v_size, .val v_base, .own s2.1, .val s2.2, .emp, .emp] (fun (x31 : PV) (s5 : List PV × PV) => [.val v_cell, .val v_size, .val v_base, .own s5.1, .val s5.2, .val x31, .emp]) ?_ ?_ ?_ ?_ ?_
      · intro K
        exact rfl
      · exact rfl
      · intro x s K
        exact rfl
      · intro s
        exact rfl
      · intro x31 s5 k29 k30
        exact rfl
    · intro s4
      exact rfl
theorem b__law_fraction (C : Str → List PV → Out) (v_number v_divisor : PV) : runK prog (tbOf prog C) d__law_fraction [v_number, v_divisor] = mm__law_fraction C v_number v_divisor := by
  refine (runK_pos rfl).trans ?_
  unfold mm__law_fraction
  refine cut 2 (fun (s2 : PV × PV) => [.val v_number, .val v_divisor, .val s2.1, .val s2.2, .emp]) ?_ ?_
  · intro k29
    exact rfl
  · intro s2
    refine cut 1 (fun (s6 : PV × PV) => [.val v_number, .val v_divisor, .val s6.1, .val s6.2, .emp]) ?_ ?_
    · intro k28
      refine forP (fun (s7 : PV × PV) => [.val v_number, .val v_divisor, .val s7.1, .val s7.2, .emp]) (s2.1, s2.2) [.val v_number, .val v_divisor, .val s2.1, .val s2.2, .emp] (fun (x13 : PV) (s7 : PV × PV) => [.val v_number, .val v_divisor, .val s7.1, .val s7.2, .val x13]) ?_ ?_ ?_ ?_ ?_
      · intro K
        exact rfl
      · exact rfl
      · intro x s K
        exact rfl
      · intro s
        exact rfl
      · intro x13 s7 k11 k12
        exact rfl
    · intro s6
      refine cut 1 (fun (s19 : PV) => [.val v_number, .val v_divisor, .val s19, .val s6.2, .emp]) ?_ ?_
      · intro k27
        exact rfl
      · intro s19
        exact rfl
theorem b__law_plus (C : Str → List PV → Out) (v_a v_b : PV) : runK prog (tbOf prog C) d__law_plus [v_a, v_b] = mm__law_plus C v_a v_b := by
  refine (runK_pos rfl).trans ?_
  unfold mm__law_plus
  exact rfl
theorem b__law_minus (C : Str → List PV → Out) (v_a v_b : PV) : runK prog (tbOf prog C) d__law_minus [v_a, v_b] = mm__law_minus C v_a v_b := by
  refine (runK_pos rfl).trans ?_
  unfold mm__law_minus
  exact rfl
theorem b__law_times (C : Str → List PV → Out) (v_a v_b : PV) : runK prog (tbOf prog C) d__law_times [v_a, v_b] = mm__law_times C v_a v_b := by
  refine (runK_pos rfl).trans ?_
  unfold mm__law_times
  exact rfl
theorem b__law_over (C : Str → List PV → Out) (v_a v_b : PV) : runK prog (tbOf prog C) d__law_over [v_a, v_b] = mm__law_over C v_a v_b := by
  refine (runK_pos rfl).trans ?_
  unfold mm__law_over
  exact rfl
theorem b__law_moved (C : Str → List PV → Out) (v_point v_shift : PV) : runK prog (tbOf prog C) d__law_moved [v_point, v_shift] = mm__law_moved C v_point v_shift := by
  refine (runK_pos rfl).trans ?_
  unfold mm__law_moved
  exact rfl
theorem b__law_back (C : Str → List PV → Out) (v_point v_shift : PV) : runK prog (tbOf prog C) d__law_back [v_point, v_shift] = mm__law_back C v_point v_shift := by
  refine (runK_pos rfl).trans ?_
  unfold mm__law_back
  exact rfl
theorem b__law_direction (C : Str → List PV → Out) (v_cell v_most : PV) : runK prog (tbOf prog C) d__law_direction [v_cell, v_most] = mm__law_direction C v_cell v_most := by
  refine (runK_pos rfl).trans ?_
  unfold mm__law_direction
  refine cut 1 (fun (s2 : List PV) => [.val v_cell, .val v_most, .own s2]) ?_ ?_
  · intro k32
    exact rfl
  · intro s2
    refine cut 1 (fun (s10 : List PV) => [.val v_cell, .val v_most, .own s10]) ?_ ?_
    · intro k31
      exact rfl
    · intro s10
      exact rfl
theorem b__law_middle (C : Str → List PV → Out) (v_a v_b : PV) : runK prog (tbOf prog C) d__law_middle [v_a, v_b] = mm__law_middle C v_a v_b := by
  refine (runK_pos rfl).trans ?_
  unfold mm__law_middle
  exact rfl
theorem b__law_pairs (C : Str → List PV → Out) : runK prog (tbOf prog C) d__law_pairs [] = mm__law_pairs C  := by
  refine (runK_pos rfl).trans ?_
  unfold mm__law_pairs
  exact rfl
theorem b__law_no_moments (C : Str → List PV → Out) : runK prog (tbOf prog C) d__law_no_moments [] = mm__law_no_moments C  := by
  refine (runK_pos rfl).trans ?_
  unfold mm__law_no_moments
  exact rfl
theorem b__law_added (C : Str → List PV → Out) (v_a v_b : PV) : runK prog (tbOf prog C) d__law_added [v_a, v_b] = mm__law_added C v_a v_b := by
  refine (runK_pos rfl).trans ?_
  unfold mm__law_added
  refine cut 1 (fun (s2 : PV) => [.val v_a, .val v_b, .val s2, .emp]) ?_ ?_
  · intro k38
    exact rfl
  · intro s2
    exact rfl
theorem b__law_centre (C : Str → List PV → Out) (v_found : PV) : runK prog (tbOf prog C) d__law_centre [v_found] = mm__law_centre C v_found := by
  refine (runK_pos rfl).trans ?_
  unfold mm__law_centre
  exact rfl
theorem b__law_box_moments (C : Str → List PV → Out) (v_low v_high : PV) : runK prog (tbOf prog C) d__law_box_moments [v_low, v_high] = mm__law_box_moments C v_low v_high := by
  refine (runK_pos rfl).trans ?_
  unfold mm__law_box_moments
  refine cut 3 (fun (s2 : PV × List PV × PV) => [.val v_low, .val v_high, .val s2.1, .own s2.2.1, .val s2.2.2, .emp, .emp, .emp, .emp, .emp, .emp]) ?_ ?_
  · intro k133
    exact rfl
  · intro s2
    refine cut 1 (fun (s31 : List PV) => [.val v_low, .val v_high, .val s2.1, .own s2.2.1, .val s2.2.2, .own s31, .emp, .emp, .emp, .emp, .emp]) ?_ ?_
    · intro k132
      exact rfl
    · intro s31
      refine cut 1 (fun (s33 : PV × List PV) => [.val v_low, .val v_high, .val s2.1, .val s33.1, .val s2.2.2, .own s33.2, .emp, .emp, .emp, .emp, .emp]) ?_ ?_
      · intro k131
        refine forPt 2 (fun (s61 : List PV) => [.val v_low, .val v_high, .val s2.1, .val (.lst s2.2.1), .val s2.2.2, .own s61, .emp, .emp, .emp, .emp, .emp]) s31 [.val v_low, .val v_high, .val s2.1, .own s2.2.1, .val s2.2.2, .own s31, .emp, .emp, .emp, .emp, .emp] (fun (vs91 : List PV) (s61 : List PV) => [.val v_low, .val v_high, .val s2.1, .val (.lst s2.2.1), .val s2.2.2, .own s61, .val (vs91.getD 0 .non), .val (vs91.getD 1 .non), .emp, .emp, .emp]) ?_ ?_ ?_ ?_ ?_
        · intro K
          exact rfl
        · exact rfl
        · intro x s K
          exact rfl
        · intro s
          exact rfl
        · intro vs91 s61 k88 k89
          refine cut 1 (fun (s93 : PV) => [.val v_low, .val v_high, .val s2.1, .val (.lst s2.2.1), .val s2.2.2, .own s61, .val (vs91.getD 0 .non), .val (vs91.getD 1 .non), .val s93, .emp, .emp]) ?_ ?_
          · intro k115
            exact rfl
          · intro s93
            refine cut 1 (fun (s100 : PV) => [.val v_low, .val v_high, .val s2.1, .val (.lst s2.2.1), .val s2.2.2, .own s61, .val (vs91.getD 0 .non), .val (vs91.getD 1 .non), .val s100, .emp, .emp]) ?_ ?_
            · intro k114
              exact rfl
            · intro s100
              exact rfl
      · intro s33
        exact rfl
theorem b__law_corners (C : Str → List PV → Out) (v_cell : PV) : runK prog (tbOf prog C) d__law_corners [v_cell] = mm__law_corners C v_cell := by
  refine (runK_pos rfl).trans ?_
  unfold mm__law_corners
  refine cut 2 (fun (s2 : PV × List PV) => [.val v_cell, .val s2.1, .own s2.2, .emp, .emp]) ?_ ?_
  · intro k36
    exact rfl
  · intro s2
    exact rfl
theorem b__law_point (C : Str → List PV → Out) (v_cell : PV) : runK prog (tbOf prog C) d__law_point [v_cell] = mm__law_point C v_cell := by
  refine (runK_pos rfl).trans ?_
  unfold mm__law_point
  exact rfl
theorem b__law_turning (C : Str → List PV → Out) (v_seconds v_direction : PV) : runK prog (tbOf prog C) d__law_turning [v_seconds, v_direction] = mm__law_turning C v_seconds v_direction := by
  refine (runK_pos rfl).trans ?_
  unfold mm__law_turning
  refine cut 2 (fun (s2 : PV × PV × PV × PV) => [.val v_seconds, .val v_direction, .val s2.1, .val s2.2.1, .val s2.2.2.1, .val s2.2.2.2, .emp, .emp]) ?_ ?_
  · intro k101
    exact rfl
  · intro s2
    refine cut 1 (fun (s5 : PV) => [.val v_seconds, .val v_direction, .val s5, .val s2.2.1, .val s2.2.2.1, .val s2.2.2.2, .emp, .emp]) ?_ ?_
    · intro k100
      refine forPt 2 (fun (s6 : PV) => [.val v_seconds, .val v_direction, .val s6, .val s2.2.1, .val s2.2.2.1, .val s2.2.2.2, .emp, .emp]) s2.1 [.val v_seconds, .val v_direction, .val s2.1, .val s2.2.1, .val s2.2.2.1, .val s2.2.2.2, .emp, .emp] (fun (vs19 : List PV) (s6 : PV) => [.val v_seconds, .val v_direction, .val s6, .val s2.2.1, .val s2.2.2.1, .val s2.2.2.2, .val (vs19.getD 0 .non), .val (vs19.getD 1 .non)]) ?_ ?_ ?_ ?_ ?_
      · intro K
        exact rfl
      · exact rfl
      · intro x s K
        exact rfl
      · intro s
        exact rfl
      · intro vs19 s6 k16 k17
        exact rfl
    · intro s5
      refine cut 1 (fun (s49 : PV) => [.val v_seconds, .val v_direction, .val s49, .val s2.2.1, .val s2.2.2.1, .val s2.2.2.2, .emp, .emp]) ?_ ?_
      · intro k99
        refine forPt 2 (fun (s50 : PV) => [.val v_seconds, .val v_direction, .val s50, .val s2.2.1, .val s2.2.2.1, .val s2.2.2.2, .emp, .emp]) s5 [.val v_seconds, .val v_direction, .val s5, .val s2.2.1, .val s2.2.2.1, .val s2.2.2.2, .emp, .emp] (fun (vs63 : List PV) (s50 : PV) => [.val v_seconds, .val v_direction, .val s50, .val s2.2.1, .val s2.2.2.1, .val s2.2.2.2, .val (vs63.getD 0 .non), .val (vs63.getD 1 .non)]) ?_ ?_ ?_ ?_ ?_
        · intro K
          exact rfl
        · exact rfl
        · intro x s K
          exact rfl
        · intro s
          exact rfl
        · intro vs63 s50 k60 k61
          exact rfl
      · intro s49
        exact rfl
theorem bt_law (C : Str → List PV → Out) (X : Str → List PV → Str → Bool) (v_script : PV) : exT (tbOf prog C) ⟨X, fun cl => [("Nought" : Str)].any (· == cl)⟩ d_law.N prog.M prog.W d_law.sc prog.D d_law.body (startF d_law.N [v_script]) = mm_law C X v_script := by
  have e := exT_pre (T := tbOf prog C) (x := ⟨X, fun cl => [("Nought" : Str)].any (· == cl)⟩) (N := d_law.N) (M := prog.M) (W := prog.W) (sc := d_law.sc) (D := prog.D) (d_law.body.take 22) (d_law.body.drop 22) (startF d_law.N [v_script]) rfl
  rw [List.take_append_drop] at e
  rw [e]
  unfold mm_law
  refine cut 3 (fun (s2 : PV × List PV × PV) => [.val v_script, .val s2.1, .own s2.2.1, .val s2.2.2, .emp, .emp, .emp, .emp, .emp, .emp, .emp, .emp, .emp, .emp, .emp, .emp, .emp, .emp, .emp, .emp]) ?_ ?_
  · intro k190
    exact rfl
  · intro s2
    refine cut 4 (fun (s28 : PV × PV × PV × PV) => [.val v_script, .val s2.1, .own s2.2.1, .val s2.2.2, .val s28.1, .val s28.2.1, .emp, .emp, .emp, .emp, .emp, .emp, .emp, .emp, .emp, .val s28.2.2.1, .val s28.2.2.2, .emp, .emp, .emp]) ?_ ?_
    · intro k189
      exact rfl
    · intro s28
      refine cut 1 (fun (s42 : PV × PV) => [.val v_script, .val s2.1, .val s42.1, .val s2.2.2, .val s28.1, .val s42.2, .emp, .emp, .emp, .emp, .emp, .emp, .emp, .emp, .emp, .val s28.2.2.1, .val s28.2.2.2, .emp, .emp, .emp]) ?_ ?_
      · intro k188
        refine forP (fun (s43 : PV) => [.val v_script, .val s2.1, .val (.lst s2.2.1), .val s2.2.2, .val s28.1, .val s43, .emp, .emp, .emp, .emp, .emp, .emp, .emp, .emp, .emp, .val s28.2.2.1, .val s28.2.2.2, .emp, .emp, .emp]) s28.2.1 [.val v_script, .val s2.1, .val (.lst s2.2.1), .val s2.2.2, .val s28.1, .val s28.2.1, .emp, .emp, .emp, .emp, .emp, .emp, .emp, .emp, .emp, .val s28.2.2.1, .val s28.2.2.2, .emp, .emp, .emp] (fun (x48 : PV) (s43 : PV) => [.val v_script, .val s2.1, .val (.lst s2.2.1), .val s2.2.2, .val s28.1, .val s43, .val x48, .emp, .emp, .emp, .emp, .emp, .emp, .emp, .emp, .val s28.2.2.1, .val s28.2.2.2, .emp, .emp, .emp]) ?_ ?_ ?_ ?_ ?_
        · intro K
          exact rfl
        · exact rfl
        · intro x s K
          exact rfl
        · intro s
          exact rfl
        · intro x48 s43 k46 k47
          exact rfl
      · intro s42
        refine cut 3 (fun (s53 : List PV) => [.val v_script, .val s2.1, .val s42.1, .val s2.2.2, .val s28.1, .val s42.2, .emp, .own s53, .emp, .emp, .emp, .emp, .emp, .emp, .emp, .val s28.2.2.1, .val s28.2.2.2, .emp, .emp, .emp]) ?_ ?_
        · intro k187
          exact rfl
        · intro s53
          refine cut 3 (fun (s77 : PV × PV) => [.val v_script, .val s2.1, .val s42.1, .val s2.2.2, .val s28.1, .val s42.2, .emp, .own s53, .val s77.1, .val s77.2, .emp, .emp, .emp, .emp, .emp, .val s28.2.2.1, .val s28.2.2.2, .emp, .emp, .emp]) ?_ ?_
          · intro k186
            exact rfl
          · intro s77
            refine cut 3 (fun (s101 : PV × List PV) => [.val v_script, .val s2.1, .val s42.1, .val s2.2.2, .val s28.1, .val s42.2, .emp, .own s53, .val s77.1, .val s77.2, .val s101.1, .own s101.2, .emp, .emp, .emp, .val s28.2.2.1, .val s28.2.2.2, .emp, .emp, .emp]) ?_ ?_
            · intro k185
              exact rfl
            · intro s101
              refine cut 1 (fun (s123 : List PV) => [.val v_script, .val s2.1, .val s42.1, .val s2.2.2, .val s28.1, .val s42.2, .emp, .own s53, .val s77.1, .val s77.2, .val s101.1, .own s123, .emp, .emp, .emp, .val s28.2.2.1, .val s28.2.2.2, .emp, .emp, .emp]) ?_ ?_
              · intro k184
                refine forP (fun (s124 : List PV) => [.val v_script, .val s2.1, .val s42.1, .val s2.2.2, .val s28.1, .val s42.2, .emp, .own s53, .val s77.1, .val s77.2, .val s101.1, .own s124, .emp, .emp, .emp, .val s28.2.2.1, .val s28.2.2.2, .emp, .emp, .emp]) s101.2 [.val v_script, .val s2.1, .val s42.1, .val s2.2.2, .val s28.1, .val s42.2, .emp, .own s53, .val s77.1, .val s77.2, .val s101.1, .own s101.2, .emp, .emp, .emp, .val s28.2.2.1, .val s28.2.2.2, .emp, .emp, .emp] (fun (x147 : PV) (s124 : List PV) => [.val v_script, .val s2.1, .val s42.1, .val s2.2.2, .val s28.1, .val s42.2, .emp, .own s53, .val s77.1, .val s77.2, .val s101.1, .own s124, .val x147, .emp, .emp, .val s28.2.2.1, .val s28.2.2.2, .emp, .emp, .emp]) ?_ ?_ ?_ ?_ ?_
                · intro K
                  exact rfl
                · exact rfl
                · intro x s K
                  exact rfl
                · intro s
                  exact rfl
                · intro x147 s124 k145 k146
                  exact rfl
              · intro s123
                exact rfl
theorem r_common (d : Nat) (v_a v_b : PV) : run prog (d + 1) "common" [v_a, v_b] = mm_common (run prog d) v_a v_b := (runK_eq rfl _).trans (b_common _ v_a v_b)
theorem r_fraction (d : Nat) (v_number v_divisor : PV) : run prog (d + 1) "fraction" [v_number, v_divisor] = mm_fraction (run prog d) v_number v_divisor := (runK_eq rfl _).trans (b_fraction _ v_number v_divisor)
theorem r_plus (d : Nat) (v_a v_b : PV) : run prog (d + 1) "plus" [v_a, v_b] = mm_plus (run prog d) v_a v_b := (runK_eq rfl _).trans (b_plus _ v_a v_b)
theorem r_minus (d : Nat) (v_a v_b : PV) : run prog (d + 1) "minus" [v_a, v_b] = mm_minus (run prog d) v_a v_b := (runK_eq rfl _).trans (b_minus _ v_a v_b)
theorem r_times (d : Nat) (v_a v_b : PV) : run prog (d + 1) "times" [v_a, v_b] = mm_times (run prog d) v_a v_b := (runK_eq rfl _).trans (b_times _ v_a v_b)
theorem r_over (d : Nat) (v_a v_b : PV) : run prog (d + 1) "over" [v_a, v_b] = mm_over (run prog d) v_a v_b := (runK_eq rfl _).trans (b_over _ v_a v_b)
theorem r_negative (d : Nat) (v_a : PV) : run prog (d + 1) "negative" [v_a] = mm_negative (run prog d) v_a := (runK_eq rfl _).trans (b_negative _ v_a)
theorem r_total (d : Nat) (v_row : PV) : run prog (d + 1) "total" [v_row] = mm_total (run prog d) v_row := (runK_eq rfl _).trans (b_total _ v_row)
theorem r_dot (d : Nat) (v_a v_b : PV) : run prog (d + 1) "dot" [v_a, v_b] = mm_dot (run prog d) v_a v_b := (runK_eq rfl _).trans (b_dot _ v_a v_b)
theorem r_added (d : Nat) (v_a v_b : PV) : run prog (d + 1) "added" [v_a, v_b] = mm_added (run prog d) v_a v_b := (runK_eq rfl _).trans (b_added _ v_a v_b)
theorem r_joined_moments (d : Nat) (v_rows : PV) : run prog (d + 1) "joined_moments" [v_rows] = mm_joined_moments (run prog d) v_rows := (runK_eq rfl _).trans (b_joined_moments _ v_rows)
theorem r_shifted_moments (d : Nat) (v_found v_shift : PV) : run prog (d + 1) "shifted_moments" [v_found, v_shift] = mm_shifted_moments (run prog d) v_found v_shift := (runK_eq rfl _).trans (b_shifted_moments _ v_found v_shift)
theorem r_weighed (d : Nat) (v_found v_factor : PV) : run prog (d + 1) "weighed" [v_found, v_factor] = mm_weighed (run prog d) v_found v_factor := (runK_eq rfl _).trans (b_weighed _ v_found v_factor)
theorem r_centre_of (d : Nat) (v_found : PV) : run prog (d + 1) "centre_of" [v_found] = mm_centre_of (run prog d) v_found := (runK_eq rfl _).trans (b_centre_of _ v_found)
theorem r_about (d : Nat) (v_found v_point : PV) : run prog (d + 1) "about" [v_found, v_point] = mm_about (run prog d) v_found v_point := (runK_eq rfl _).trans (b_about _ v_found v_point)
theorem r_turning (d : Nat) (v_found v_point v_direction : PV) : run prog (d + 1) "turning" [v_found, v_point, v_direction] = mm_turning (run prog d) v_found v_point v_direction := (runK_eq rfl _).trans (b_turning _ v_found v_point v_direction)
theorem r__law_cell (d : Nat) (v_script v_k : PV) : run prog (d + 1) "_law_cell" [v_script, v_k] = mm__law_cell (run prog d) v_script v_k := (runK_eq rfl _).trans (b__law_cell _ v_script v_k)
theorem r__law_row (d : Nat) (v_cell v_size v_base : PV) : run prog (d + 1) "_law_row" [v_cell, v_size, v_base] = mm__law_row (run prog d) v_cell v_size v_base := (runK_eq rfl _).trans (b__law_row _ v_cell v_size v_base)
theorem r__law_fraction (d : Nat) (v_number v_divisor : PV) : run prog (d + 1) "_law_fraction" [v_number, v_divisor] = mm__law_fraction (run prog d) v_number v_divisor := (runK_eq rfl _).trans (b__law_fraction _ v_number v_divisor)
theorem r__law_plus (d : Nat) (v_a v_b : PV) : run prog (d + 1) "_law_plus" [v_a, v_b] = mm__law_plus (run prog d) v_a v_b := (runK_eq rfl _).trans (b__law_plus _ v_a v_b)
theorem r__law_minus (d : Nat) (v_a v_b : PV) : run prog (d + 1) "_law_minus" [v_a, v_b] = mm__law_minus (run prog d) v_a v_b := (runK_eq rfl _).trans (b__law_minus _ v_a v_b)
theorem r__law_times (d : Nat) (v_a v_b : PV) : run prog (d + 1) "_law_times" [v_a, v_b] = mm__law_times (run prog d) v_a v_b := (runK_eq rfl _).trans (b__law_times _ v_a v_b)
theorem r__law_over (d : Nat) (v_a v_b : PV) : run prog (d + 1) "_law_over" [v_a, v_b] = mm__law_over (run prog d) v_a v_b := (runK_eq rfl _).trans (b__law_over _ v_a v_b)
theorem r__law_moved (d : Nat) (v_point v_shift : PV) : run prog (d + 1) "_law_moved" [v_point, v_shift] = mm__law_moved (run prog d) v_point v_shift := (runK_eq rfl _).trans (b__law_moved _ v_point v_shift)
theorem r__law_back (d : Nat) (v_point v_shift : PV) : run prog (d + 1) "_law_back" [v_point, v_shift] = mm__law_back (run prog d) v_point v_shift := (runK_eq rfl _).trans (b__law_back _ v_point v_shift)
theorem r__law_direction (d : Nat) (v_cell v_most : PV) : run prog (d + 1) "_law_direction" [v_cell, v_most] = mm__law_direction (run prog d) v_cell v_most := (runK_eq rfl _).trans (b__law_direction _ v_cell v_most)
theorem r__law_middle (d : Nat) (v_a v_b : PV) : run prog (d + 1) "_law_middle" [v_a, v_b] = mm__law_middle (run prog d) v_a v_b := (runK_eq rfl _).trans (b__law_middle _ v_a v_b)
theorem r__law_pairs (d : Nat) : run prog (d + 1) "_law_pairs" [] = mm__law_pairs (run prog d)  := (runK_eq rfl _).trans (b__law_pairs _ )
theorem r__law_no_moments (d : Nat) : run prog (d + 1) "_law_no_moments" [] = mm__law_no_moments (run prog d)  := (runK_eq rfl _).trans (b__law_no_moments _ )
theorem r__law_added (d : Nat) (v_a v_b : PV) : run prog (d + 1) "_law_added" [v_a, v_b] = mm__law_added (run prog d) v_a v_b := (runK_eq rfl _).trans (b__law_added _ v_a v_b)
theorem r__law_centre (d : Nat) (v_found : PV) : run prog (d + 1) "_law_centre" [v_found] = mm__law_centre (run prog d) v_found := (runK_eq rfl _).trans (b__law_centre _ v_found)
theorem r__law_box_moments (d : Nat) (v_low v_high : PV) : run prog (d + 1) "_law_box_moments" [v_low, v_high] = mm__law_box_moments (run prog d) v_low v_high := (runK_eq rfl _).trans (b__law_box_moments _ v_low v_high)
theorem r__law_corners (d : Nat) (v_cell : PV) : run prog (d + 1) "_law_corners" [v_cell] = mm__law_corners (run prog d) v_cell := (runK_eq rfl _).trans (b__law_corners _ v_cell)
theorem r__law_point (d : Nat) (v_cell : PV) : run prog (d + 1) "_law_point" [v_cell] = mm__law_point (run prog d) v_cell := (runK_eq rfl _).trans (b__law_point _ v_cell)
theorem r__law_turning (d : Nat) (v_seconds v_direction : PV) : run prog (d + 1) "_law_turning" [v_seconds, v_direction] = mm__law_turning (run prog d) v_seconds v_direction := (runK_eq rfl _).trans (b__law_turning _ v_seconds v_direction)
end K77

namespace K77
open PySem L2 Pv
section
variable {K : PySem.W.Frag} {mg : Str → Option Value}
theorem pg_ok {w : World} {h : Heap} (X : K.In h) (G : h.Ns mainGlobals mg) {f0 : Addr} {oc0 kV0 dc0 pm0 cd0 ct0 : Value} {od0 an0 : Option Addr} {sl0 : Array (Option Value)} {f1 : Addr} {oc1 kV1 dc1 pm1 cd1 ct1 : Value} {od1 an1 : Option Addr} {sl1 : Array (Option Value)} {T1 : Addr} {o1 : Obj} {n1 : Nat} {tk1_0 : Tok} {f2 : Addr} {oc2 kV2 dc2 pm2 cd2 ct2 : Value} {od2 an2 : Option Addr} {sl2 : Array (Option Value)} {f3 : Addr} {oc3 kV3 dc3 pm3 cd3 ct3 : Value} {od3 an3 : Option Addr} {sl3 : Array (Option Value)} {f4 : Addr} {oc4 kV4 dc4 pm4 cd4 ct4 : Value} {od4 an4 : Option Addr} {sl4 : Array (Option Value)} {f5 : Addr} {oc5 kV5 dc5 pm5 cd5 ct5 : Value} {od5 an5 : Option Addr} {sl5 : Array (Option Value)} {f6 : Addr} {oc6 kV6 dc6 pm6 cd6 ct6 : Value} {od6 an6 : Option Addr} {sl6 : Array (Option Value)} {f7 : Addr} {oc7 kV7 dc7 pm7 cd7 ct7 : Value} {od7 an7 : Option Addr} {sl7 : Array (Option Value)} {f8 : Addr} {oc8 kV8 dc8 pm8 cd8 ct8 : Value} {od8 an8 : Option Addr} {sl8 : Array (Option Value)} {f9 : Addr} {oc9 kV9 dc9 pm9 cd9 ct9 : Value} {od9 an9 : Option Addr} {sl9 : Array (Option Value)} {f10 : Addr} {oc10 kV10 dc10 pm10 cd10 ct10 : Value} {od10 an10 : Option Addr} {sl10 : Array (Option Value)} {f11 : Addr} {oc11 kV11 dc11 pm11 cd11 ct11 : Value} {od11 an11 : Option Addr} {sl11 : Array (Option Value)} {f12 : Addr} {oc12 kV12 dc12 pm12 cd12 ct12 : Value} {od12 an12 : Option Addr} {sl12 : Array (Option Value)} {f13 : Addr} {oc13 kV13 dc13 pm13 cd13 ct13 : Value} {od13 an13 : Option Addr} {sl13 : Array (Option Value)} {f14 : Addr} {oc14 kV14 dc14 pm14 cd14 ct14 : Value} {od14 an14 : Option Addr} {sl14 : Array (Option Value)} {f15 : Addr} {oc15 kV15 dc15 pm15 cd15 ct15 : Value} {od15 an15 : Option Addr} {sl15 : Array (Option Value)} {f16 : Addr} {oc16 kV16 dc16 pm16 cd16 ct16 : Value} {od16 an16 : Option Addr} {sl16 : Array (Option Value)} {f17 : Addr} {oc17 kV17 dc17 pm17 cd17 ct17 : Value} {od17 an17 : Option Addr} {sl17 : Array (Option Value)} {f18 : Addr} {oc18 kV18 dc18 pm18 cd18 ct18 : Value} {od18 an18 : Option Addr} {sl18 : Array (Option Value)} {f19 : Addr} {oc19 kV19 dc19 pm19 cd19 ct19 : Value} {od19 an19 : Option Addr} {sl19 : Array (Option Value)} {f20 : Addr} {oc20 kV20 dc20 pm20 cd20 ct20 : Value} {od20 an20 : Option Addr} {sl20 : Array (Option Value)} {f21 : Addr} {oc21 kV21 dc21 pm21 cd21 ct21 : Value} {od21 an21 : Option Addr} {sl21 : Array (Option Value)} {f22 : Addr} {oc22 kV22 dc22 pm22 cd22 ct22 : Value} {od22 an22 : Option Addr} {sl22 : Array (Option Value)} {f23 : Addr} {oc23 kV23 dc23 pm23 cd23 ct23 : Value} {od23 an23 : Option Addr} {sl23 : Array (Option Value)} {f24 : Addr} {oc24 kV24 dc24 pm24 cd24 ct24 : Value} {od24 an24 : Option Addr} {sl24 : Array (Option Value)} {f25 : Addr} {oc25 kV25 dc25 pm25 cd25 ct25 : Value} {od25 an25 : Option Addr} {sl25 : Array (Option Value)} {f26 : Addr} {oc26 kV26 dc26 pm26 cd26 ct26 : Value} {od26 an26 : Option Addr} {sl26 : Array (Option Value)} {f27 : Addr} {oc27 kV27 dc27 pm27 cd27 ct27 : Value} {od27 an27 : Option Addr} {sl27 : Array (Option Value)} {f28 : Addr} {oc28 kV28 dc28 pm28 cd28 ct28 : Value} {od28 an28 : Option Addr} {sl28 : Array (Option Value)} {f29 : Addr} {oc29 kV29 dc29 pm29 cd29 ct29 : Value} {od29 an29 : Option Addr} {sl29 : Array (Option Value)} {f30 : Addr} {oc30 kV30 dc30 pm30 cd30 ct30 : Value} {od30 an30 : Option Addr} {sl30 : Array (Option Value)} {f31 : Addr} {oc31 kV31 dc31 pm31 cd31 ct31 : Value} {od31 an31 : Option Addr} {sl31 : Array (Option Value)} {f32 : Addr} {oc32 kV32 dc32 pm32 cd32 ct32 : Value} {od32 an32 : Option Addr} {sl32 : Array (Option Value)} {f33 : Addr} {oc33 kV33 dc33 pm33 cd33 ct33 : Value} {od33 an33 : Option Addr} {sl33 : Array (Option Value)} {f34 : Addr} {oc34 kV34 dc34 pm34 cd34 ct34 : Value} {od34 an34 : Option Addr} {sl34 : Array (Option Value)} {f35 : Addr} {oc35 kV35 dc35 pm35 cd35 ct35 : Value} {od35 an35 : Option Addr} {sl35 : Array (Option Value)} {uc0 : Value} {uc1 : Value} {X0 : Addr}
    (a0 : PySem.W.nsIn K mainGlobals "common" = some (some (.ref f0)))
    (l0 : K.lookup f0 = some ⟨oc0, od0, .func (PySem.W.fnOf "common" "common" (defArgs (top 4)) (defBody (top 4)) (defScope (top 4)) .none kV0 dc0 pm0 an0 cd0 ct0), sl0⟩)
    (c0 : PySem.W.codeIn K cd0 "common" = true)
    (k0 : PySem.W.keepIn K (.ref f0) = true)
    (a1 : PySem.W.nsIn K mainGlobals "fraction" = some (some (.ref f1)))
    (l1 : K.lookup f1 = some ⟨oc1, od1, .func (PySem.W.fnOf "fraction" "fraction" (defArgs (top 5)) (defBody (top 5)) (defScope (top 5)) (.ref T1) kV1 dc1 pm1 an1 cd1 ct1), sl1⟩)
    (c1 : PySem.W.codeIn K cd1 "fraction" = true)
    (k1 : PySem.W.keepIn K (.ref f1) = true)
    (t1 : K.lookup T1 = some o1)
    (u1 : o1.data = .seq ([Value.int 1 tk1_0] : List Value).toArray n1)
    (a2 : PySem.W.nsIn K mainGlobals "plus" = some (some (.ref f2)))
    (l2 : K.lookup f2 = some ⟨oc2, od2, .func (PySem.W.fnOf "plus" "plus" (defArgs (top 6)) (defBody (top 6)) (defScope (top 6)) .none kV2 dc2 pm2 an2 cd2 ct2), sl2⟩)
    (c2 : PySem.W.codeIn K cd2 "plus" = true)
    (k2 : PySem.W.keepIn K (.ref f2) = true)
    (a3 : PySem.W.nsIn K mainGlobals "minus" = some (some (.ref f3)))
    (l3 : K.lookup f3 = some ⟨oc3, od3, .func (PySem.W.fnOf "minus" "minus" (defArgs (top 7)) (defBody (top 7)) (defScope (top 7)) .none kV3 dc3 pm3 an3 cd3 ct3), sl3⟩)
    (c3 : PySem.W.codeIn K cd3 "minus" = true)
    (k3 : PySem.W.keepIn K (.ref f3) = true)
    (a4 : PySem.W.nsIn K mainGlobals "times" = some (some (.ref f4)))
    (l4 : K.lookup f4 = some ⟨oc4, od4, .func (PySem.W.fnOf "times" "times" (defArgs (top 8)) (defBody (top 8)) (defScope (top 8)) .none kV4 dc4 pm4 an4 cd4 ct4), sl4⟩)
    (c4 : PySem.W.codeIn K cd4 "times" = true)
    (k4 : PySem.W.keepIn K (.ref f4) = true)
    (a5 : PySem.W.nsIn K mainGlobals "over" = some (some (.ref f5)))
    (l5 : K.lookup f5 = some ⟨oc5, od5, .func (PySem.W.fnOf "over" "over" (defArgs (top 9)) (defBody (top 9)) (defScope (top 9)) .none kV5 dc5 pm5 an5 cd5 ct5), sl5⟩)
    (c5 : PySem.W.codeIn K cd5 "over" = true)
    (k5 : PySem.W.keepIn K (.ref f5) = true)
    (a6 : PySem.W.nsIn K mainGlobals "negative" = some (some (.ref f6)))
    (l6 : K.lookup f6 = some ⟨oc6, od6, .func (PySem.W.fnOf "negative" "negative" (defArgs (top 10)) (defBody (top 10)) (defScope (top 10)) .none kV6 dc6 pm6 an6 cd6 ct6), sl6⟩)
    (c6 : PySem.W.codeIn K cd6 "negative" = true)
    (k6 : PySem.W.keepIn K (.ref f6) = true)
    (a7 : PySem.W.nsIn K mainGlobals "total" = some (some (.ref f7)))
    (l7 : K.lookup f7 = some ⟨oc7, od7, .func (PySem.W.fnOf "total" "total" (defArgs (top 11)) (defBody (top 11)) (defScope (top 11)) .none kV7 dc7 pm7 an7 cd7 ct7), sl7⟩)
    (c7 : PySem.W.codeIn K cd7 "total" = true)
    (k7 : PySem.W.keepIn K (.ref f7) = true)
    (a8 : PySem.W.nsIn K mainGlobals "dot" = some (some (.ref f8)))
    (l8 : K.lookup f8 = some ⟨oc8, od8, .func (PySem.W.fnOf "dot" "dot" (defArgs (top 13)) (defBody (top 13)) (defScope (top 13)) .none kV8 dc8 pm8 an8 cd8 ct8), sl8⟩)
    (c8 : PySem.W.codeIn K cd8 "dot" = true)
    (k8 : PySem.W.keepIn K (.ref f8) = true)
    (a9 : PySem.W.nsIn K mainGlobals "added" = some (some (.ref f9)))
    (l9 : K.lookup f9 = some ⟨oc9, od9, .func (PySem.W.fnOf "added" "added" (defArgs (top 17)) (defBody (top 17)) (defScope (top 17)) .none kV9 dc9 pm9 an9 cd9 ct9), sl9⟩)
    (c9 : PySem.W.codeIn K cd9 "added" = true)
    (k9 : PySem.W.keepIn K (.ref f9) = true)
    (a10 : PySem.W.nsIn K mainGlobals "joined_moments" = some (some (.ref f10)))
    (l10 : K.lookup f10 = some ⟨oc10, od10, .func (PySem.W.fnOf "joined_moments" "joined_moments" (defArgs (top 18)) (defBody (top 18)) (defScope (top 18)) .none kV10 dc10 pm10 an10 cd10 ct10), sl10⟩)
    (c10 : PySem.W.codeIn K cd10 "joined_moments" = true)
    (k10 : PySem.W.keepIn K (.ref f10) = true)
    (a11 : PySem.W.nsIn K mainGlobals "shifted_moments" = some (some (.ref f11)))
    (l11 : K.lookup f11 = some ⟨oc11, od11, .func (PySem.W.fnOf "shifted_moments" "shifted_moments" (defArgs (top 19)) (defBody (top 19)) (defScope (top 19)) .none kV11 dc11 pm11 an11 cd11 ct11), sl11⟩)
    (c11 : PySem.W.codeIn K cd11 "shifted_moments" = true)
    (k11 : PySem.W.keepIn K (.ref f11) = true)
    (a12 : PySem.W.nsIn K mainGlobals "weighed" = some (some (.ref f12)))
    (l12 : K.lookup f12 = some ⟨oc12, od12, .func (PySem.W.fnOf "weighed" "weighed" (defArgs (top 20)) (defBody (top 20)) (defScope (top 20)) .none kV12 dc12 pm12 an12 cd12 ct12), sl12⟩)
    (c12 : PySem.W.codeIn K cd12 "weighed" = true)
    (k12 : PySem.W.keepIn K (.ref f12) = true)
    (a13 : PySem.W.nsIn K mainGlobals "centre_of" = some (some (.ref f13)))
    (l13 : K.lookup f13 = some ⟨oc13, od13, .func (PySem.W.fnOf "centre_of" "centre_of" (defArgs (top 21)) (defBody (top 21)) (defScope (top 21)) .none kV13 dc13 pm13 an13 cd13 ct13), sl13⟩)
    (c13 : PySem.W.codeIn K cd13 "centre_of" = true)
    (k13 : PySem.W.keepIn K (.ref f13) = true)
    (a14 : PySem.W.nsIn K mainGlobals "about" = some (some (.ref f14)))
    (l14 : K.lookup f14 = some ⟨oc14, od14, .func (PySem.W.fnOf "about" "about" (defArgs (top 22)) (defBody (top 22)) (defScope (top 22)) .none kV14 dc14 pm14 an14 cd14 ct14), sl14⟩)
    (c14 : PySem.W.codeIn K cd14 "about" = true)
    (k14 : PySem.W.keepIn K (.ref f14) = true)
    (a15 : PySem.W.nsIn K mainGlobals "turning" = some (some (.ref f15)))
    (l15 : K.lookup f15 = some ⟨oc15, od15, .func (PySem.W.fnOf "turning" "turning" (defArgs (top 23)) (defBody (top 23)) (defScope (top 23)) .none kV15 dc15 pm15 an15 cd15 ct15), sl15⟩)
    (c15 : PySem.W.codeIn K cd15 "turning" = true)
    (k15 : PySem.W.keepIn K (.ref f15) = true)
    (a16 : PySem.W.nsIn K mainGlobals "_law_cell" = some (some (.ref f16)))
    (l16 : K.lookup f16 = some ⟨oc16, od16, .func (PySem.W.fnOf "_law_cell" "_law_cell" (defArgs (top 25)) (defBody (top 25)) (defScope (top 25)) .none kV16 dc16 pm16 an16 cd16 ct16), sl16⟩)
    (c16 : PySem.W.codeIn K cd16 "_law_cell" = true)
    (k16 : PySem.W.keepIn K (.ref f16) = true)
    (a17 : PySem.W.nsIn K mainGlobals "_law_row" = some (some (.ref f17)))
    (l17 : K.lookup f17 = some ⟨oc17, od17, .func (PySem.W.fnOf "_law_row" "_law_row" (defArgs (top 26)) (defBody (top 26)) (defScope (top 26)) .none kV17 dc17 pm17 an17 cd17 ct17), sl17⟩)
    (c17 : PySem.W.codeIn K cd17 "_law_row" = true)
    (k17 : PySem.W.keepIn K (.ref f17) = true)
    (a18 : PySem.W.nsIn K mainGlobals "_law_fraction" = some (some (.ref f18)))
    (l18 : K.lookup f18 = some ⟨oc18, od18, .func (PySem.W.fnOf "_law_fraction" "_law_fraction" (defArgs (top 27)) (defBody (top 27)) (defScope (top 27)) .none kV18 dc18 pm18 an18 cd18 ct18), sl18⟩)
    (c18 : PySem.W.codeIn K cd18 "_law_fraction" = true)
    (k18 : PySem.W.keepIn K (.ref f18) = true)
    (a19 : PySem.W.nsIn K mainGlobals "_law_plus" = some (some (.ref f19)))
    (l19 : K.lookup f19 = some ⟨oc19, od19, .func (PySem.W.fnOf "_law_plus" "_law_plus" (defArgs (top 28)) (defBody (top 28)) (defScope (top 28)) .none kV19 dc19 pm19 an19 cd19 ct19), sl19⟩)
    (c19 : PySem.W.codeIn K cd19 "_law_plus" = true)
    (k19 : PySem.W.keepIn K (.ref f19) = true)
    (a20 : PySem.W.nsIn K mainGlobals "_law_minus" = some (some (.ref f20)))
    (l20 : K.lookup f20 = some ⟨oc20, od20, .func (PySem.W.fnOf "_law_minus" "_law_minus" (defArgs (top 29)) (defBody (top 29)) (defScope (top 29)) .none kV20 dc20 pm20 an20 cd20 ct20), sl20⟩)
    (c20 : PySem.W.codeIn K cd20 "_law_minus" = true)
    (k20 : PySem.W.keepIn K (.ref f20) = true)
    (a21 : PySem.W.nsIn K mainGlobals "_law_times" = some (some (.ref f21)))
    (l21 : K.lookup f21 = some ⟨oc21, od21, .func (PySem.W.fnOf "_law_times" "_law_times" (defArgs (top 30)) (defBody (top 30)) (defScope (top 30)) .none kV21 dc21 pm21 an21 cd21 ct21), sl21⟩)
    (c21 : PySem.W.codeIn K cd21 "_law_times" = true)
    (k21 : PySem.W.keepIn K (.ref f21) = true)
    (a22 : PySem.W.nsIn K mainGlobals "_law_over" = some (some (.ref f22)))
    (l22 : K.lookup f22 = some ⟨oc22, od22, .func (PySem.W.fnOf "_law_over" "_law_over" (defArgs (top 31)) (defBody (top 31)) (defScope (top 31)) .none kV22 dc22 pm22 an22 cd22 ct22), sl22⟩)
    (c22 : PySem.W.codeIn K cd22 "_law_over" = true)
    (k22 : PySem.W.keepIn K (.ref f22) = true)
    (a23 : PySem.W.nsIn K mainGlobals "_law_moved" = some (some (.ref f23)))
    (l23 : K.lookup f23 = some ⟨oc23, od23, .func (PySem.W.fnOf "_law_moved" "_law_moved" (defArgs (top 32)) (defBody (top 32)) (defScope (top 32)) .none kV23 dc23 pm23 an23 cd23 ct23), sl23⟩)
    (c23 : PySem.W.codeIn K cd23 "_law_moved" = true)
    (k23 : PySem.W.keepIn K (.ref f23) = true)
    (a24 : PySem.W.nsIn K mainGlobals "_law_back" = some (some (.ref f24)))
    (l24 : K.lookup f24 = some ⟨oc24, od24, .func (PySem.W.fnOf "_law_back" "_law_back" (defArgs (top 33)) (defBody (top 33)) (defScope (top 33)) .none kV24 dc24 pm24 an24 cd24 ct24), sl24⟩)
    (c24 : PySem.W.codeIn K cd24 "_law_back" = true)
    (k24 : PySem.W.keepIn K (.ref f24) = true)
    (a25 : PySem.W.nsIn K mainGlobals "_law_direction" = some (some (.ref f25)))
    (l25 : K.lookup f25 = some ⟨oc25, od25, .func (PySem.W.fnOf "_law_direction" "_law_direction" (defArgs (top 34)) (defBody (top 34)) (defScope (top 34)) .none kV25 dc25 pm25 an25 cd25 ct25), sl25⟩)
    (c25 : PySem.W.codeIn K cd25 "_law_direction" = true)
    (k25 : PySem.W.keepIn K (.ref f25) = true)
    (a26 : PySem.W.nsIn K mainGlobals "_law_middle" = some (some (.ref f26)))
    (l26 : K.lookup f26 = some ⟨oc26, od26, .func (PySem.W.fnOf "_law_middle" "_law_middle" (defArgs (top 35)) (defBody (top 35)) (defScope (top 35)) .none kV26 dc26 pm26 an26 cd26 ct26), sl26⟩)
    (c26 : PySem.W.codeIn K cd26 "_law_middle" = true)
    (k26 : PySem.W.keepIn K (.ref f26) = true)
    (a27 : PySem.W.nsIn K mainGlobals "_law_pairs" = some (some (.ref f27)))
    (l27 : K.lookup f27 = some ⟨oc27, od27, .func (PySem.W.fnOf "_law_pairs" "_law_pairs" (defArgs (top 36)) (defBody (top 36)) (defScope (top 36)) .none kV27 dc27 pm27 an27 cd27 ct27), sl27⟩)
    (c27 : PySem.W.codeIn K cd27 "_law_pairs" = true)
    (k27 : PySem.W.keepIn K (.ref f27) = true)
    (a28 : PySem.W.nsIn K mainGlobals "_law_no_moments" = some (some (.ref f28)))
    (l28 : K.lookup f28 = some ⟨oc28, od28, .func (PySem.W.fnOf "_law_no_moments" "_law_no_moments" (defArgs (top 37)) (defBody (top 37)) (defScope (top 37)) .none kV28 dc28 pm28 an28 cd28 ct28), sl28⟩)
    (c28 : PySem.W.codeIn K cd28 "_law_no_moments" = true)
    (k28 : PySem.W.keepIn K (.ref f28) = true)
    (a29 : PySem.W.nsIn K mainGlobals "_law_added" = some (some (.ref f29)))
    (l29 : K.lookup f29 = some ⟨oc29, od29, .func (PySem.W.fnOf "_law_added" "_law_added" (defArgs (top 38)) (defBody (top 38)) (defScope (top 38)) .none kV29 dc29 pm29 an29 cd29 ct29), sl29⟩)
    (c29 : PySem.W.codeIn K cd29 "_law_added" = true)
    (k29 : PySem.W.keepIn K (.ref f29) = true)
    (a30 : PySem.W.nsIn K mainGlobals "_law_centre" = some (some (.ref f30)))
    (l30 : K.lookup f30 = some ⟨oc30, od30, .func (PySem.W.fnOf "_law_centre" "_law_centre" (defArgs (top 39)) (defBody (top 39)) (defScope (top 39)) .none kV30 dc30 pm30 an30 cd30 ct30), sl30⟩)
    (c30 : PySem.W.codeIn K cd30 "_law_centre" = true)
    (k30 : PySem.W.keepIn K (.ref f30) = true)
    (a31 : PySem.W.nsIn K mainGlobals "_law_box_moments" = some (some (.ref f31)))
    (l31 : K.lookup f31 = some ⟨oc31, od31, .func (PySem.W.fnOf "_law_box_moments" "_law_box_moments" (defArgs (top 40)) (defBody (top 40)) (defScope (top 40)) .none kV31 dc31 pm31 an31 cd31 ct31), sl31⟩)
    (c31 : PySem.W.codeIn K cd31 "_law_box_moments" = true)
    (k31 : PySem.W.keepIn K (.ref f31) = true)
    (a32 : PySem.W.nsIn K mainGlobals "_law_corners" = some (some (.ref f32)))
    (l32 : K.lookup f32 = some ⟨oc32, od32, .func (PySem.W.fnOf "_law_corners" "_law_corners" (defArgs (top 41)) (defBody (top 41)) (defScope (top 41)) .none kV32 dc32 pm32 an32 cd32 ct32), sl32⟩)
    (c32 : PySem.W.codeIn K cd32 "_law_corners" = true)
    (k32 : PySem.W.keepIn K (.ref f32) = true)
    (a33 : PySem.W.nsIn K mainGlobals "_law_point" = some (some (.ref f33)))
    (l33 : K.lookup f33 = some ⟨oc33, od33, .func (PySem.W.fnOf "_law_point" "_law_point" (defArgs (top 42)) (defBody (top 42)) (defScope (top 42)) .none kV33 dc33 pm33 an33 cd33 ct33), sl33⟩)
    (c33 : PySem.W.codeIn K cd33 "_law_point" = true)
    (k33 : PySem.W.keepIn K (.ref f33) = true)
    (a34 : PySem.W.nsIn K mainGlobals "_law_turning" = some (some (.ref f34)))
    (l34 : K.lookup f34 = some ⟨oc34, od34, .func (PySem.W.fnOf "_law_turning" "_law_turning" (defArgs (top 43)) (defBody (top 43)) (defScope (top 43)) .none kV34 dc34 pm34 an34 cd34 ct34), sl34⟩)
    (c34 : PySem.W.codeIn K cd34 "_law_turning" = true)
    (k34 : PySem.W.keepIn K (.ref f34) = true)
    (a35 : PySem.W.nsIn K mainGlobals "law" = some (some (.ref f35)))
    (l35 : K.lookup f35 = some ⟨oc35, od35, .func (PySem.W.fnOf "law" "law" (defArgs (top 44)) (defBody (top 44)) (defScope (top 44)) .none kV35 dc35 pm35 an35 cd35 ct35), sl35⟩)
    (c35 : PySem.W.codeIn K cd35 "law" = true)
    (k35 : PySem.W.keepIn K (.ref f35) = true)
    (b_abs : PySem.W.nsIn K mainGlobals "abs" = some none)
    (b_bool : PySem.W.nsIn K mainGlobals "bool" = some none)
    (b_int : PySem.W.nsIn K mainGlobals "int" = some none)
    (b_isinstance : PySem.W.nsIn K mainGlobals "isinstance" = some none)
    (b_len : PySem.W.nsIn K mainGlobals "len" = some none)
    (b_list : PySem.W.nsIn K mainGlobals "list" = some none)
    (b_range : PySem.W.nsIn K mainGlobals "range" = some none)
    (b_str : PySem.W.nsIn K mainGlobals "str" = some none)
    (b_tuple : PySem.W.nsIn K mainGlobals "tuple" = some none)
    (ac0 : PySem.W.nsIn K mainGlobals "PAIRS" = some (some uc0))
    (rc0 : repV K 8 uc0 (.tup [.tup [.int (0), .int (0)], .tup [.int (1), .int (1)], .tup [.int (2), .int (2)], .tup [.int (0), .int (1)], .tup [.int (0), .int (2)], .tup [.int (1), .int (2)]]) = true)
    (ac1 : PySem.W.nsIn K mainGlobals "EMPTY" = some (some uc1))
    (rc1 : repV K 8 uc1 (.tup [.tup [.int (0), .int (1)], .tup [.tup [.int (0), .int (1)], .tup [.int (0), .int (1)], .tup [.int (0), .int (1)]], .tup [.tup [.int (0), .int (1)], .tup [.int (0), .int (1)], .tup [.int (0), .int (1)], .tup [.int (0), .int (1)], .tup [.int (0), .int (1)], .tup [.int (0), .int (1)]]]) = true)
    (aX0 : PySem.W.nsIn K mainGlobals "Nought" = some (some (.ref X0)))
    (xX0 : PySem.W.excIn K X0 [.type "ValueError", .type "Exception", .type "BaseException", .type "object"] "ValueError.__new__" = true)
    (kX0 : PySem.W.keepIn K (.ref X0) = true)
    (bX0 : PySem.W.subIn K (.ref X0) (.type "BaseException") = some true)
    (tX0 : PySem.W.typeIn K (.ref X0) = some (.type "type"))
    (iX0 : PySem.W.isClsIn K X0 = true)
    (sX0 : PySem.W.subIn K (.ref X0) (.ref X0) = some true) :
    ∃ fd, DefOk K mg "law" d_law f35 fd ∧ PgOk K mg prog ∧ (∀ (s : Shared) (v : Value), BindsTo s fd ⟨[v], []⟩ [("script", v)]) ∧ (∀ cl ∈ ([("Nought" : Str)] : List Str), ∃ CF, ClsX K mg cl CF) := by
  have D0 : DefOk K mg "common" d_common f0 _ := ⟨PySem.W.mg_of X G a0, k0, ⟨_, _, _, _, _, _, _, _, _, _, _, _, _, rfl, l0, c0⟩, sc_common, 
    fun q hq => (by
      simp only [d_common, List.mem_cons, List.not_mem_nil, or_false] at hq
      subst hq
      (exact ⟨[], [], .all fun us hl => match us, hl with | [_, _], _ => rfl, .nil, fun F => .nil, rfl⟩)), 
    fun q hq => (by cases hq)⟩
  have F1 : FunD K "fraction" "fraction" (defArgs (top 5)) (defBody (top 5)) (defScope (top 5)) [V.int 1] [] f1 _ := ⟨⟨_, _, _, _, _, _, _, _, _, _, rfl, l1, c1, .inr ⟨by simp, T1, o1, [Value.int 1 tk1_0], n1, rfl, t1, u1, .cons ⟨_, rfl⟩ (.nil)⟩, .inl rfl⟩, k1⟩
  have D1 : DefOk K mg "fraction" d_fraction f1 _ := ⟨PySem.W.mg_of X G a1, k1, ⟨_, _, _, _, _, _, _, _, _, _, _, _, _, rfl, l1, c1⟩, sc_fraction, 
    fun q hq => (by
      simp only [d_fraction, List.mem_cons, List.not_mem_nil, or_false] at hq
      rcases hq with rfl | rfl
      · (obtain ⟨ds, hv, hb⟩ := F1.binds1 (ps := d_fraction.ps) 1 0 (by simp) rfl (fun T kV doc pm an cdv ct us its h1 h2 => match us, its, h1, h2 with | [_], [_], _, _ => ⟨_, rfl, rfl⟩); exact ⟨_, ds, hb, hv, fun F => .cons (.int (1)) (.nil), rfl⟩)
      · (obtain ⟨ds, hv, hb⟩ := F1.binds1 (ps := d_fraction.ps) 2 1 (by simp) rfl (fun T kV doc pm an cdv ct us its h1 h2 => match us, its, h1, h2 with | [_, _], [_], _, _ => ⟨_, rfl, rfl⟩); exact ⟨_, ds, hb, hv, fun F => .nil, rfl⟩)
      ), 
    fun q hq => (by cases hq)⟩
  have D2 : DefOk K mg "plus" d_plus f2 _ := ⟨PySem.W.mg_of X G a2, k2, ⟨_, _, _, _, _, _, _, _, _, _, _, _, _, rfl, l2, c2⟩, sc_plus, 
    fun q hq => (by
      simp only [d_plus, List.mem_cons, List.not_mem_nil, or_false] at hq
      subst hq
      (exact ⟨[], [], .all fun us hl => match us, hl with | [_, _], _ => rfl, .nil, fun F => .nil, rfl⟩)), 
    fun q hq => (by cases hq)⟩
  have D3 : DefOk K mg "minus" d_minus f3 _ := ⟨PySem.W.mg_of X G a3, k3, ⟨_, _, _, _, _, _, _, _, _, _, _, _, _, rfl, l3, c3⟩, sc_minus, 
    fun q hq => (by
      simp only [d_minus, List.mem_cons, List.not_mem_nil, or_false] at hq
      subst hq
      (exact ⟨[], [], .all fun us hl => match us, hl with | [_, _], _ => rfl, .nil, fun F => .nil, rfl⟩)), 
    fun q hq => (by cases hq)⟩
  have D4 : DefOk K mg "times" d_times f4 _ := ⟨PySem.W.mg_of X G a4, k4, ⟨_, _, _, _, _, _, _, _, _, _, _, _, _, rfl, l4, c4⟩, sc_times, 
    fun q hq => (by
      simp only [d_times, List.mem_cons, List.not_mem_nil, or_false] at hq
      subst hq
      (exact ⟨[], [], .all fun us hl => match us, hl with | [_, _], _ => rfl, .nil, fun F => .nil, rfl⟩)), 
    fun q hq => (by cases hq)⟩
  have D5 : DefOk K mg "over" d_over f5 _ := ⟨PySem.W.mg_of X G a5, k5, ⟨_, _, _, _, _, _, _, _, _, _, _, _, _, rfl, l5, c5⟩, sc_over, 
    fun q hq => (by
      simp only [d_over, List.mem_cons, List.not_mem_nil, or_false] at hq
      subst hq
      (exact ⟨[], [], .all fun us hl => match us, hl with | [_, _], _ => rfl, .nil, fun F => .nil, rfl⟩)), 
    fun q hq => (by cases hq)⟩
  have D6 : DefOk K mg "negative" d_negative f6 _ := ⟨PySem.W.mg_of X G a6, k6, ⟨_, _, _, _, _, _, _, _, _, _, _, _, _, rfl, l6, c6⟩, sc_negative, 
    fun q hq => (by
      simp only [d_negative, List.mem_cons, List.not_mem_nil, or_false] at hq
      subst hq
      (exact ⟨[], [], .all fun us hl => match us, hl with | [_], _ => rfl, .nil, fun F => .nil, rfl⟩)), 
    fun q hq => (by cases hq)⟩
  have D7 : DefOk K mg "total" d_total f7 _ := ⟨PySem.W.mg_of X G a7, k7, ⟨_, _, _, _, _, _, _, _, _, _, _, _, _, rfl, l7, c7⟩, sc_total, 
    fun q hq => (by
      simp only [d_total, List.mem_cons, List.not_mem_nil, or_false] at hq
      subst hq
      (exact ⟨[], [], .all fun us hl => match us, hl with | [_], _ => rfl, .nil, fun F => .nil, rfl⟩)), 
    fun q hq => (by cases hq)⟩
  have D8 : DefOk K mg "dot" d_dot f8 _ := ⟨PySem.W.mg_of X G a8, k8, ⟨_, _, _, _, _, _, _, _, _, _, _, _, _, rfl, l8, c8⟩, sc_dot, 
    fun q hq => (by
      simp only [d_dot, List.mem_cons, List.not_mem_nil, or_false] at hq
      subst hq
      (exact ⟨[], [], .all fun us hl => match us, hl with | [_, _], _ => rfl, .nil, fun F => .nil, rfl⟩)), 
    fun q hq => (by cases hq)⟩
  have D9 : DefOk K mg "added" d_added f9 _ := ⟨PySem.W.mg_of X G a9, k9, ⟨_, _, _, _, _, _, _, _, _, _, _, _, _, rfl, l9, c9⟩, sc_added, 
    fun q hq => (by
      simp only [d_added, List.mem_cons, List.not_mem_nil, or_false] at hq
      subst hq
      (exact ⟨[], [], .all fun us hl => match us, hl with | [_, _], _ => rfl, .nil, fun F => .nil, rfl⟩)), 
    fun q hq => (by cases hq)⟩
  have D10 : DefOk K mg "joined_moments" d_joined_moments f10 _ := ⟨PySem.W.mg_of X G a10, k10, ⟨_, _, _, _, _, _, _, _, _, _, _, _, _, rfl, l10, c10⟩, sc_joined_moments, 
    fun q hq => (by
      simp only [d_joined_moments, List.mem_cons, List.not_mem_nil, or_false] at hq
      subst hq
      (exact ⟨[], [], .all fun us hl => match us, hl with | [_], _ => rfl, .nil, fun F => .nil, rfl⟩)), 
    fun q hq => (by cases hq)⟩
  have D11 : DefOk K mg "shifted_moments" d_shifted_moments f11 _ := ⟨PySem.W.mg_of X G a11, k11, ⟨_, _, _, _, _, _, _, _, _, _, _, _, _, rfl, l11, c11⟩, sc_shifted_moments, 
    fun q hq => (by
      simp only [d_shifted_moments, List.mem_cons, List.not_mem_nil, or_false] at hq
      subst hq
      (exact ⟨[], [], .all fun us hl => match us, hl with | [_, _], _ => rfl, .nil, fun F => .nil, rfl⟩)), 
    fun q hq => (by cases hq)⟩
  have D12 : DefOk K mg "weighed" d_weighed f12 _ := ⟨PySem.W.mg_of X G a12, k12, ⟨_, _, _, _, _, _, _, _, _, _, _, _, _, rfl, l12, c12⟩, sc_weighed, 
    fun q hq => (by
      simp only [d_weighed, List.mem_cons, List.not_mem_nil, or_false] at hq
      subst hq
      (exact ⟨[], [], .all fun us hl => match us, hl with | [_, _], _ => rfl, .nil, fun F => .nil, rfl⟩)), 
    fun q hq => (by cases hq)⟩
  have D13 : DefOk K mg "centre_of" d_centre_of f13 _ := ⟨PySem.W.mg_of X G a13, k13, ⟨_, _, _, _, _, _, _, _, _, _, _, _, _, rfl, l13, c13⟩, sc_centre_of, 
    fun q hq => (by
      simp only [d_centre_of, List.mem_cons, List.not_mem_nil, or_false] at hq
      subst hq
      (exact ⟨[], [], .all fun us hl => match us, hl with | [_], _ => rfl, .nil, fun F => .nil, rfl⟩)), 
    fun q hq => (by cases hq)⟩
  have D14 : DefOk K mg "about" d_about f14 _ := ⟨PySem.W.mg_of X G a14, k14, ⟨_, _, _, _, _, _, _, _, _, _, _, _, _, rfl, l14, c14⟩, sc_about, 
    fun q hq => (by
      simp only [d_about, List.mem_cons, List.not_mem_nil, or_false] at hq
      subst hq
      (exact ⟨[], [], .all fun us hl => match us, hl with | [_, _], _ => rfl, .nil, fun F => .nil, rfl⟩)), 
    fun q hq => (by cases hq)⟩
  have D15 : DefOk K mg "turning" d_turning f15 _ := ⟨PySem.W.mg_of X G a15, k15, ⟨_, _, _, _, _, _, _, _, _, _, _, _, _, rfl, l15, c15⟩, sc_turning, 
    fun q hq => (by
      simp only [d_turning, List.mem_cons, List.not_mem_nil, or_false] at hq
      subst hq
      (exact ⟨[], [], .all fun us hl => match us, hl with | [_, _, _], _ => rfl, .nil, fun F => .nil, rfl⟩)), 
    fun q hq => (by cases hq)⟩
  have D16 : DefOk K mg "_law_cell" d__law_cell f16 _ := ⟨PySem.W.mg_of X G a16, k16, ⟨_, _, _, _, _, _, _, _, _, _, _, _, _, rfl, l16, c16⟩, sc__law_cell, 
    fun q hq => (by
      simp only [d__law_cell, List.mem_cons, List.not_mem_nil, or_false] at hq
      subst hq
      (exact ⟨[], [], .all fun us hl => match us, hl with | [_, _], _ => rfl, .nil, fun F => .nil, rfl⟩)), 
    fun q hq => (by cases hq)⟩
  have D17 : DefOk K mg "_law_row" d__law_row f17 _ := ⟨PySem.W.mg_of X G a17, k17, ⟨_, _, _, _, _, _, _, _, _, _, _, _, _, rfl, l17, c17⟩, sc__law_row, 
    fun q hq => (by
      simp only [d__law_row, List.mem_cons, List.not_mem_nil, or_false] at hq
      subst hq
      (exact ⟨[], [], .all fun us hl => match us, hl with | [_, _, _], _ => rfl, .nil, fun F => .nil, rfl⟩)), 
    fun q hq => (by cases hq)⟩
  have D18 : DefOk K mg "_law_fraction" d__law_fraction f18 _ := ⟨PySem.W.mg_of X G a18, k18, ⟨_, _, _, _, _, _, _, _, _, _, _, _, _, rfl, l18, c18⟩, sc__law_fraction, 
    fun q hq => (by
      simp only [d__law_fraction, List.mem_cons, List.not_mem_nil, or_false] at hq
      subst hq
      (exact ⟨[], [], .all fun us hl => match us, hl with | [_, _], _ => rfl, .nil, fun F => .nil, rfl⟩)), 
    fun q hq => (by cases hq)⟩
  have D19 : DefOk K mg "_law_plus" d__law_plus f19 _ := ⟨PySem.W.mg_of X G a19, k19, ⟨_, _, _, _, _, _, _, _, _, _, _, _, _, rfl, l19, c19⟩, sc__law_plus, 
    fun q hq => (by
      simp only [d__law_plus, List.mem_cons, List.not_mem_nil, or_false] at hq
      subst hq
      (exact ⟨[], [], .all fun us hl => match us, hl with | [_, _], _ => rfl, .nil, fun F => .nil, rfl⟩)), 
    fun q hq => (by cases hq)⟩
  have D20 : DefOk K mg "_law_minus" d__law_minus f20 _ := ⟨PySem.W.mg_of X G a20, k20, ⟨_, _, _, _, _, _, _, _, _, _, _, _, _, rfl, l20, c20⟩, sc__law_minus, 
    fun q hq => (by
      simp only [d__law_minus, List.mem_cons, List.not_mem_nil, or_false] at hq
      subst hq
      (exact ⟨[], [], .all fun us hl => match us, hl with | [_, _], _ => rfl, .nil, fun F => .nil, rfl⟩)), 
    fun q hq => (by cases hq)⟩
  have D21 : DefOk K mg "_law_times" d__law_times f21 _ := ⟨PySem.W.mg_of X G a21, k21, ⟨_, _, _, _, _, _, _, _, _, _, _, _, _, rfl, l21, c21⟩, sc__law_times, 
    fun q hq => (by
      simp only [d__law_times, List.mem_cons, List.not_mem_nil, or_false] at hq
      subst hq
      (exact ⟨[], [], .all fun us hl => match us, hl with | [_, _], _ => rfl, .nil, fun F => .nil, rfl⟩)), 
    fun q hq => (by cases hq)⟩
  have D22 : DefOk K mg "_law_over" d__law_over f22 _ := ⟨PySem.W.mg_of X G a22, k22, ⟨_, _, _, _, _, _, _, _, _, _, _, _, _, rfl, l22, c22⟩, sc__law_over, 
    fun q hq => (by
      simp only [d__law_over, List.mem_cons, List.not_mem_nil, or_false] at hq
      subst hq
      (exact ⟨[], [], .all fun us hl => match us, hl with | [_, _], _ => rfl, .nil, fun F => .nil, rfl⟩)), 
    fun q hq => (by cases hq)⟩
  have D23 : DefOk K mg "_law_moved" d__law_moved f23 _ := ⟨PySem.W.mg_of X G a23, k23, ⟨_, _, _, _, _, _, _, _, _, _, _, _, _, rfl, l23, c23⟩, sc__law_moved, 
    fun q hq => (by
      simp only [d__law_moved, List.mem_cons, List.not_mem_nil, or_false] at hq
      subst hq
      (exact ⟨[], [], .all fun us hl => match us, hl with | [_, _], _ => rfl, .nil, fun F => .nil, rfl⟩)), 
    fun q hq => (by cases hq)⟩
  have D24 : DefOk K mg "_law_back" d__law_back f24 _ := ⟨PySem.W.mg_of X G a24, k24, ⟨_, _, _, _, _, _, _, _, _, _, _, _, _, rfl, l24, c24⟩, sc__law_back, 
    fun q hq => (by
      simp only [d__law_back, List.mem_cons, List.not_mem_nil, or_false] at hq
      subst hq
      (exact ⟨[], [], .all fun us hl => match us, hl with | [_, _], _ => rfl, .nil, fun F => .nil, rfl⟩)), 
    fun q hq => (by cases hq)⟩
  have D25 : DefOk K mg "_law_direction" d__law_direction f25 _ := ⟨PySem.W.mg_of X G a25, k25, ⟨_, _, _, _, _, _, _, _, _, _, _, _, _, rfl, l25, c25⟩, sc__law_direction, 
    fun q hq => (by
      simp only [d__law_direction, List.mem_cons, List.not_mem_nil, or_false] at hq
      subst hq
      (exact ⟨[], [], .all fun us hl => match us, hl with | [_, _], _ => rfl, .nil, fun F => .nil, rfl⟩)), 
    fun q hq => (by cases hq)⟩
  have D26 : DefOk K mg "_law_middle" d__law_middle f26 _ := ⟨PySem.W.mg_of X G a26, k26, ⟨_, _, _, _, _, _, _, _, _, _, _, _, _, rfl, l26, c26⟩, sc__law_middle, 
    fun q hq => (by
      simp only [d__law_middle, List.mem_cons, List.not_mem_nil, or_false] at hq
      subst hq
      (exact ⟨[], [], .all fun us hl => match us, hl with | [_, _], _ => rfl, .nil, fun F => .nil, rfl⟩)), 
    fun q hq => (by cases hq)⟩
  have D27 : DefOk K mg "_law_pairs" d__law_pairs f27 _ := ⟨PySem.W.mg_of X G a27, k27, ⟨_, _, _, _, _, _, _, _, _, _, _, _, _, rfl, l27, c27⟩, sc__law_pairs, 
    fun q hq => (by
      simp only [d__law_pairs, List.mem_cons, List.not_mem_nil, or_false] at hq
      subst hq
      (exact ⟨[], [], .all fun us hl => match us, hl with | [], _ => rfl, .nil, fun F => .nil, rfl⟩)), 
    fun q hq => (by cases hq)⟩
  have D28 : DefOk K mg "_law_no_moments" d__law_no_moments f28 _ := ⟨PySem.W.mg_of X G a28, k28, ⟨_, _, _, _, _, _, _, _, _, _, _, _, _, rfl, l28, c28⟩, sc__law_no_moments, 
    fun q hq => (by
      simp only [d__law_no_moments, List.mem_cons, List.not_mem_nil, or_false] at hq
      subst hq
      (exact ⟨[], [], .all fun us hl => match us, hl with | [], _ => rfl, .nil, fun F => .nil, rfl⟩)), 
    fun q hq => (by cases hq)⟩
  have D29 : DefOk K mg "_law_added" d__law_added f29 _ := ⟨PySem.W.mg_of X G a29, k29, ⟨_, _, _, _, _, _, _, _, _, _, _, _, _, rfl, l29, c29⟩, sc__law_added, 
    fun q hq => (by
      simp only [d__law_added, List.mem_cons, List.not_mem_nil, or_false] at hq
      subst hq
      (exact ⟨[], [], .all fun us hl => match us, hl with | [_, _], _ => rfl, .nil, fun F => .nil, rfl⟩)), 
    fun q hq => (by cases hq)⟩
  have D30 : DefOk K mg "_law_centre" d__law_centre f30 _ := ⟨PySem.W.mg_of X G a30, k30, ⟨_, _, _, _, _, _, _, _, _, _, _, _, _, rfl, l30, c30⟩, sc__law_centre, 
    fun q hq => (by
      simp only [d__law_centre, List.mem_cons, List.not_mem_nil, or_false] at hq
      subst hq
      (exact ⟨[], [], .all fun us hl => match us, hl with | [_], _ => rfl, .nil, fun F => .nil, rfl⟩)), 
    fun q hq => (by cases hq)⟩
  have D31 : DefOk K mg "_law_box_moments" d__law_box_moments f31 _ := ⟨PySem.W.mg_of X G a31, k31, ⟨_, _, _, _, _, _, _, _, _, _, _, _, _, rfl, l31, c31⟩, sc__law_box_moments, 
    fun q hq => (by
      simp only [d__law_box_moments, List.mem_cons, List.not_mem_nil, or_false] at hq
      subst hq
      (exact ⟨[], [], .all fun us hl => match us, hl with | [_, _], _ => rfl, .nil, fun F => .nil, rfl⟩)), 
    fun q hq => (by cases hq)⟩
  have D32 : DefOk K mg "_law_corners" d__law_corners f32 _ := ⟨PySem.W.mg_of X G a32, k32, ⟨_, _, _, _, _, _, _, _, _, _, _, _, _, rfl, l32, c32⟩, sc__law_corners, 
    fun q hq => (by
      simp only [d__law_corners, List.mem_cons, List.not_mem_nil, or_false] at hq
      subst hq
      (exact ⟨[], [], .all fun us hl => match us, hl with | [_], _ => rfl, .nil, fun F => .nil, rfl⟩)), 
    fun q hq => (by cases hq)⟩
  have D33 : DefOk K mg "_law_point" d__law_point f33 _ := ⟨PySem.W.mg_of X G a33, k33, ⟨_, _, _, _, _, _, _, _, _, _, _, _, _, rfl, l33, c33⟩, sc__law_point, 
    fun q hq => (by
      simp only [d__law_point, List.mem_cons, List.not_mem_nil, or_false] at hq
      subst hq
      (exact ⟨[], [], .all fun us hl => match us, hl with | [_], _ => rfl, .nil, fun F => .nil, rfl⟩)), 
    fun q hq => (by cases hq)⟩
  have D34 : DefOk K mg "_law_turning" d__law_turning f34 _ := ⟨PySem.W.mg_of X G a34, k34, ⟨_, _, _, _, _, _, _, _, _, _, _, _, _, rfl, l34, c34⟩, sc__law_turning, 
    fun q hq => (by
      simp only [d__law_turning, List.mem_cons, List.not_mem_nil, or_false] at hq
      subst hq
      (exact ⟨[], [], .all fun us hl => match us, hl with | [_, _], _ => rfl, .nil, fun F => .nil, rfl⟩)), 
    fun q hq => (by cases hq)⟩
  have D35 : DefOk K mg "law" d_law f35 _ := ⟨PySem.W.mg_of X G a35, k35, ⟨_, _, _, _, _, _, _, _, _, _, _, _, _, rfl, l35, c35⟩, sc_law, 
    fun q hq => (by
      simp only [d_law, List.mem_cons, List.not_mem_nil, or_false] at hq
      subst hq
      (exact ⟨[], [], .all fun us hl => match us, hl with | [_], _ => rfl, .nil, fun F => .nil, rfl⟩)), 
    fun q hq => (by cases hq)⟩
  refine ⟨_, D35, ⟨.cons D0 (.cons D1 (.cons D2 (.cons D3 (.cons D4 (.cons D5 (.cons D6 (.cons D7 (.cons D8 (.cons D9 (.cons D10 (.cons D11 (.cons D12 (.cons D13 (.cons D14 (.cons D15 (.cons D16 (.cons D17 (.cons D18 (.cons D19 (.cons D20 (.cons D21 (.cons D22 (.cons D23 (.cons D24 (.cons D25 (.cons D26 (.cons D27 (.cons D28 (.cons D29 (.cons D30 (.cons D31 (.cons D32 (.cons D33 (.cons D34 (.cons D35 (.nil)))))))))))))))))))))))))))))))))))), (fun q hq => by
    change q ∈ ([(("PAIRS" : Str), .tup [.tup [.int (0), .int (0)], .tup [.int (1), .int (1)], .tup [.int (2), .int (2)], .tup [.int (0), .int (1)], .tup [.int (0), .int (2)], .tup [.int (1), .int (2)]]), (("EMPTY" : Str), .tup [.tup [.int (0), .int (1)], .tup [.tup [.int (0), .int (1)], .tup [.int (0), .int (1)], .tup [.int (0), .int (1)]], .tup [.tup [.int (0), .int (1)], .tup [.int (0), .int (1)], .tup [.int (0), .int (1)], .tup [.int (0), .int (1)], .tup [.int (0), .int (1)], .tup [.int (0), .int (1)]]])] : List (Str × PV)) at hq
    simp only [List.mem_cons, List.not_mem_nil, or_false] at hq
    rcases hq with rfl | rfl
    · exact con_ok X G ac0 rc0
    · exact con_ok X G ac1 rc1), fun x hx => ?_, fun q hq => ?_⟩, fun s v => .of_eq rfl, (fun cl hcl => by
    simp only [List.mem_cons, List.not_mem_nil, or_false] at hcl
    rcases hcl with rfl
    · exact ⟨_, cls_ok X G aX0 xX0 kX0 bX0 tX0 iX0 sX0⟩)⟩
  · simp only [bltNames, List.mem_cons, List.not_mem_nil, or_false] at hx
    rcases hx with rfl | rfl | rfl | rfl | rfl | rfl | rfl | rfl
    all_goals first | exact PySem.W.mg_none_of X G b_abs | exact PySem.W.mg_none_of X G b_bool | exact PySem.W.mg_none_of X G b_int | exact PySem.W.mg_none_of X G b_isinstance | exact PySem.W.mg_none_of X G b_len | exact PySem.W.mg_none_of X G b_list | exact PySem.W.mg_none_of X G b_range | exact PySem.W.mg_none_of X G b_str | exact PySem.W.mg_none_of X G b_tuple
  · simp only [tyNames, List.mem_cons, List.not_mem_nil, or_false] at hq
    rcases hq with rfl | rfl | rfl | rfl | rfl
    all_goals first | exact PySem.W.mg_none_of X G b_abs | exact PySem.W.mg_none_of X G b_bool | exact PySem.W.mg_none_of X G b_int | exact PySem.W.mg_none_of X G b_isinstance | exact PySem.W.mg_none_of X G b_len | exact PySem.W.mg_none_of X G b_list | exact PySem.W.mg_none_of X G b_range | exact PySem.W.mg_none_of X G b_str | exact PySem.W.mg_none_of X G b_tuple
end
theorem walk (hlaw : ∀ ns : List Int, ns.length ≤ 63 → runT prog 18 [("Nought" : Str)] d_law [.lst (ns.map .int)] = some (.bl true, false)) {l : PySem.W.OpenLaw} {q : Program} {loose : List Str} {XP : (Str → Option Value) → Heap → Prop} {YP : World → Heap → Prop} {r : DefRec} {K : Params → PySem.W.Frag} (hn : l.most = some 63) (hdf : r.params.defaults = [])
    (hY : ∀ (w : World) (h : Heap), YP w h → (K w.params).In h)
    (F : ∀ (w : World) (mg : Str → Option Value) (fa : Addr) (h : Heap), (K w.params).In h → h.Ns mainGlobals mg → mg r.name = some (.ref fa) → ∃ fd, DefOk (K w.params) mg "law" d_law fa fd ∧ PgOk (K w.params) mg prog ∧ (∀ (s : Shared) (v : Value), BindsTo s fd ⟨[v], []⟩ [("script", v)]) ∧ (∀ cl ∈ ([("Nought" : Str)] : List Str), ∃ CF, ClsX (K w.params) mg cl CF)) :
    PySem.W.WalkO q loose XP YP l.row.toRowW r [] (fun f vs => PySem.call f vs) :=
  L2.walk_of (n := 63) (k := 20) (x := "script") (CX := fun _ => CX0) (sp := fun w => spOf (K w.params) 1 (runT prog 18 [("Nought" : Str)] d_law)) hn (by decide) hdf ⟨rfl, by decide, by decide⟩ hY (fun w mg fa h KX G hm => by
    obtain ⟨fd, D, O, B, E⟩ := F w mg fa h KX G hm
    exact ⟨fd, B, fun base hK hG => run_okT O E 18 hK hG D⟩) (fun w H a ns hl _ hS => law_spG (hlaw ns hl) hS) fun _ _ _ _ _ z => z
theorem fin {K : PySem.W.Frag} {mg : Str → Option Value} {fa f : Addr} (hmg : mg "law" = some (.ref fa)) (h : ∃ fd, DefOk K mg "law" d_law f fd ∧ PgOk K mg prog ∧ (∀ (s : Shared) (v : Value), BindsTo s fd ⟨[v], []⟩ [("script", v)]) ∧ (∀ cl ∈ ([("Nought" : Str)] : List Str), ∃ CF, ClsX K mg cl CF)) : ∃ fd, DefOk K mg "law" d_law fa fd ∧ PgOk K mg prog ∧ (∀ (s : Shared) (v : Value), BindsTo s fd ⟨[v], []⟩ [("script", v)]) ∧ (∀ cl ∈ ([("Nought" : Str)] : List Str), ∃ CF, ClsX K mg cl CF) := by
  obtain ⟨fd, D, O, B⟩ := h
  have e := hmg.symm.trans D.mg
  cases e
  exact ⟨fd, D, O, B⟩
end K77

namespace K77
open PySem L2 Pv

def sm (n : Nat) (f : Nat → Rat) : Rat := match n with
  | 0 => 0
  | n + 1 => sm n f + f n
theorem bz_zero : bz 0 = 1 := by decide +kernel
theorem bz_sm {b : Nat} {f : Nat → Rat} : ∀ n, (∀ k < n, bz (f k) ≤ b) → bz (sm n f) ≤ n * (b + 1) + 1
  | 0, _ => by
    show bz 0 ≤ _
    rw [bz_zero]; omega
  | n + 1, h => by
    have h1 := bz_sm n fun k hk => h k (by omega)
    have h2 := h n (by omega)
    have h3 := bz_add (sm n f) (f n)
    show bz (sm n f + f n) ≤ _
    rw [Nat.add_mul]
    omega
theorem sm_congr {f g : Nat → Rat} : ∀ n, (∀ k < n, f k = g k) → sm n f = sm n g
  | 0, _ => rfl
  | n + 1, h => by
    show sm n f + f n = sm n g + g n
    rw [sm_congr n fun k hk => h k (by omega), h n (by omega)]
theorem fr_zero : PV.tup [.int 0, .int 1] = fr 0 := rfl
theorem fr_int (i : Int) : PV.tup [.int i, .int 1] = fr (i : Rat) := rfl
theorem fr_half : PV.tup [.int 1, .int 2] = fr (1 / 2) := by
  rw [fr, show (1 / 2 : Rat).num = 1 by decide +kernel, show (1 / 2 : Rat).den = 2 by decide +kernel]; rfl
theorem fr_12 : PV.tup [.int 1, .int 12] = fr (1 / 12) := by
  rw [fr, show (1 / 12 : Rat).num = 1 by decide +kernel, show (1 / 12 : Rat).den = 12 by decide +kernel]; rfl
theorem bz_half : bz (1 / 2) = 2 := by decide +kernel
theorem bz_12 : bz (1 / 12) = 4 := by decide +kernel
abbrev lf (n : Nat) (t : Nat → Rat) : List PV := rl n fun k => fr (t k)
/-- moments -/
def mo (V : Rat) (F S : Nat → Rat) : PV := .tup [fr V, .tup (lf 3 F), .tup (lf 6 S)]
section
variable {V : Rat} {F S : Nat → Rat}
theorem mo0 : ix (mo V F S) (.int 0) = sh (fr V) := ix_t0
theorem mo1 : ix (mo V F S) (.int 1) = sh (.tup (lf 3 F)) := ix_t1
theorem mo2 : ix (mo V F S) (.int 2) = sh (.tup (lf 6 S)) := ix_t2
end
theorem mo_nil : PV.tup [.tup [.int 0, .int 1], .tup [.tup [.int 0, .int 1], .tup [.int 0, .int 1], .tup [.int 0, .int 1]], .tup [.tup [.int 0, .int 1], .tup [.int 0, .int 1], .tup [.int 0, .int 1], .tup [.int 0, .int 1], .tup [.int 0, .int 1], .tup [.int 0, .int 1]]] = mo 0 (fun _ => 0) (fun _ => 0) := rfl
def vec (L : PV) (l : Nat → Rat) : Prop := ∀ k < 3, ix L (.int (k : Nat)) = sh (fr (l k))
theorem vec_t {l : Nat → Rat} : vec (.tup (lf 3 l)) l := fun k hk => ix_rlT hk
theorem vec_l {l : Nat → Rat} : vec (.lst (lf 3 l)) l := fun k hk => ix_rlL hk

theorem rng3 : rng1 (.int 3) = some (rl 3 fun k => .int k) := (rng1_ok (n := 3) (by omega)).trans (by rw [ints0])
theorem rng6 : rng1 (.int 6) = some (rl 6 fun k => .int k) := (rng1_ok (n := 6) (by omega)).trans (by rw [ints0])
theorem comp3 {step : PV → Option (Option PV)} (g : Nat → PV) (h : ∀ k : Nat, k < 3 → step (.int k) = some (some (g k))) :
    ((rng1 (.int 3)).bind fun xs => (compM step xs).bind fun ys => some (PV.lst ys, true)) = some (.lst (rl 3 g), true) := by
  rw [rng3, ob_some, compM_rl 3 h, ob_some]
theorem comp6 {step : PV → Option (Option PV)} (g : Nat → PV) (h : ∀ k : Nat, k < 6 → step (.int k) = some (some (g k))) :
    ((rng1 (.int 6)).bind fun xs => (compM step xs).bind fun ys => some (PV.lst ys, true)) = some (.lst (rl 6 g), true) := by
  rw [rng6, ob_some, compM_rl 6 h, ob_some]
theorem seq_t {n : Nat} {em : Nat → PV} (hn : n ≤ 1000) : seqOf (.tup (rl n em)) = some (rl n em) := seqOf_tup (by rw [rl_len]; omega)
theorem seq_l {n : Nat} {em : Nat → PV} (hn : n ≤ 1000) : seqOf (.lst (rl n em)) = some (rl n em) := seqOf_lst (by rw [rl_len]; omega)
theorem forC_rl {S : Type} {step : PV → S → (S → Out) → (S → Out) → Out} {K : S → Out} {s0 : S} (em : Nat → PV) (inv : Nat → S) : ∀ (n : Nat), s0 = inv 0 →
    (∀ k, k < n → ∀ kn kb, step (em k) (inv k) kn kb = kn (inv (k + 1))) → forC step K (rl n em) s0 = K (inv n) := by
  intro n h0 h
  have key : ∀ (m lo : Nat), lo + m = n → forC step K ((List.range' lo m).map em) (inv lo) = K (inv n) := by
    intro m
    induction m with
    | zero => intro lo e; have : lo = n := by omega
              subst this; rfl
    | succ m ih =>
      intro lo e
      rw [List.range'_succ, List.map_cons]
      show step (em lo) (inv lo) (fun s => forC step K _ s) K = _
      rw [h lo (by omega)]
      exact ih (lo + 1) (by omega)
  rw [h0, rl, List.range_eq_range']
  exact key n 0 (by omega)
theorem forC_cons {S : Type} {step : PV → S → (S → Out) → (S → Out) → Out} {K : S → Out} {x : PV} {r : List PV} {s : S} : forC step K (x :: r) s = step x s (fun s => forC step K r s) K := nr rfl
theorem forC_nil {S : Type} {step : PV → S → (S → Out) → (S → Out) → Out} {K : S → Out} {s : S} : forC step K [] s = K s := nr rfl

def S_div (C : Cl) (f : Str) : Prop := ∀ x y : Rat, y ≠ 0 → bz x + bz y ≤ 4900 → C f [fr x, fr y] = sh (fr (x / y))
theorem div_divInt (x y : Rat) : x / y = Rat.divInt (x.num * y.den) (x.den * y.num) := by
  rw [Rat.div_def, Rat.inv_def]
  conv => lhs; rw [← Rat.num_divInt_den x]
  rw [Rat.divInt_mul_divInt]
theorem parts_div {x y : Rat} (h : bz x + bz y ≤ 4900) (hy : y ≠ 0) : mulOk x.num y.den = true ∧ mulOk x.den y.num = true ∧ ((x.den : Int) * y.num ≠ 0) ∧ nb ((x.den : Int) * y.num).natAbs ≤ 4900 := by
  have a1 := bz_num x
  have a2 := bz_den x
  have a3 := bz_num y
  have a4 := bz_den y
  refine ⟨mulOk_nb (by show nb _ + nb y.den ≤ _; omega), mulOk_nb (by show nb x.den + nb _ ≤ _; omega), ?_, ?_⟩
  · have h1 := den_ne x
    have h2 : y.num ≠ 0 := fun e => hy ((num_zero_iff y).mp e)
    exact Int.mul_ne_zero h1 h2
  · have := nb_mulI (x.den : Int) y.num
    have e : ((x.den : Int)).natAbs = x.den := rfl
    rw [e] at this
    omega
theorem s_over {C : Cl} (hc : S_fraction C) (x y : Rat) (hy : y ≠ 0) (h : bz x + bz y ≤ 4900) : mm_over C (fr x) (fr y) = sh (fr (x / y)) := by
  obtain ⟨m1, m2, h0, h4⟩ := parts_div h hy
  unfold mm_over
  simp only [fr0, fr1, sh_bind, ob_some, om_some, List.append_nil, op2_mul m1, op2_mul m2, List.cons_append, List.nil_append]
  rw [hc _ _ h0 (by omega), cl1_sh, sh_bind, div_divInt]; rfl
theorem s_lover {C : Cl} (hc : S_lfraction C) (x y : Rat) (hy : y ≠ 0) (h : bz x + bz y ≤ 4900) : mm__law_over C (fr x) (fr y) = sh (fr (x / y)) := by
  obtain ⟨m1, m2, h0, h4⟩ := parts_div h hy
  unfold mm__law_over
  simp only [fr0, fr1, sh_bind, ob_some, om_some, List.append_nil, op2_mul m1, op2_mul m2, List.cons_append, List.nil_append]
  rw [hc _ _ h0 (by omega), cl1_sh, sh_bind, div_divInt]; rfl
theorem s_negative (C : Cl) (x : Rat) : mm_negative C (fr x) = sh (fr (-x)) := by
  unfold mm_negative
  simp only [fr0, fr1, sh_bind, ob_some, om_some, neg1_int]
  rfl
theorem s_total {C : Cl} (hc : S_fraction C) (a b c : Rat) (h : bz a + bz b + bz c ≤ 4000) : mm_total C (.lst [fr a, fr b, fr c]) = sh (fr (a + b + c)) := by
  have a1 := bz_num a
  have a2 : nb (a.den : Int).natAbs ≤ bz a := bz_den a
  have b1 := bz_num b
  have b2 : nb (b.den : Int).natAbs ≤ bz b := bz_den b
  have c1 := bz_num c
  have c2 : nb (c.den : Int).natAbs ≤ bz c := bz_den c
  have n0 : nb (0 : Int).natAbs = 1 := by decide
  have n1 : nb (1 : Int).natAbs = 1 := by decide
  have p1 := nb_mulI a.num b.den
  have p2 := nb_mulI b.num a.den
  have p3 := nb_mulI a.den b.den
  have p4 := nb_addI (a.num * b.den) (b.num * a.den)
  have p5 := nb_mulI ((a.den : Int) * b.den) c.den
  unfold mm_total
  simp only [jn_def]
  rw [seqOf_lst (by simp), ob_some]
  simp only [forC_cons, forC_nil, fr0, fr1, sh_bind, ob_some]
  rw [op2_mul (mulOk_nb (by omega)), sh_bind, op2_mul (mulOk_nb (by omega)), sh_bind, op2_add, sh_bind, op2_mul (mulOk_nb (by omega)), sh_bind]
  rw [show (0 : Int) * a.den + a.num * 1 = a.num by omega, show (1 : Int) * a.den = a.den by omega]
  rw [op2_mul (mulOk_nb (by omega)), sh_bind, op2_mul (mulOk_nb (by omega)), sh_bind, op2_add, sh_bind, op2_mul (mulOk_nb (by omega)), sh_bind]
  rw [op2_mul (mulOk_nb (by omega)), sh_bind, op2_mul (mulOk_nb (by omega)), sh_bind, op2_add, sh_bind, op2_mul (mulOk_nb (by omega)), sh_bind]
  rw [hc _ _ (Int.mul_ne_zero (Int.mul_ne_zero (den_ne a) (den_ne b)) (den_ne c)) (by omega), cl1_sh, sh_bind]
  have e : a + b + c = Rat.divInt ((a.num * b.den + b.num * a.den) * c.den + c.num * (a.den * b.den)) (a.den * b.den * c.den) := by
    rw [add_divInt a b]
    conv => lhs; rw [← Rat.num_divInt_den c]
    rw [Rat.divInt_add_divInt _ _ (Int.mul_ne_zero (den_ne a) (den_ne b)) (den_ne c)]
  rw [e]; rfl
theorem s_dot (C : Cl) (x y z : Int) (hx : x.natAbs < 100) (hy : y.natAbs < 100) (hz : z.natAbs < 100) : mm_dot C (.tup [.int x, .int y, .int z]) (.tup [.int x, .int y, .int z]) = sh (.int (x * x + y * y + z * z)) := by
  have m : ∀ i : Int, i.natAbs < 100 → mulOk i i = true := fun i h => mulOk_of 60 60 (by omega) (by omega) (by omega) (by omega) (by omega)
  unfold mm_dot
  simp only [ix_t0, ix_t1, ix_t2, sh_bind, op2_mul (m x hx), op2_mul (m y hy), op2_mul (m z hz), op2_add, ob_some]
  rfl

/-! ### pairs -/
def pa (k : Nat) : Nat := if k < 3 then k else if k < 5 then 0 else 1
def pb (k : Nat) : Nat := if k < 3 then k else if k < 4 then 1 else 2
theorem pa_lt {k : Nat} (h : k < 6) : pa k < 3 := by unfold pa; split <;> (try split) <;> omega
theorem pb_lt {k : Nat} (h : k < 6) : pb k < 3 := by unfold pb; split <;> (try split) <;> omega
theorem lt6 {P : Nat → Prop} (h0 : P 0) (h1 : P 1) (h2 : P 2) (h3 : P 3) (h4 : P 4) (h5 : P 5) {k : Nat} (h : k < 6) : P k := by
  match k, h with
  | 0, _ => exact h0
  | 1, _ => exact h1
  | 2, _ => exact h2
  | 3, _ => exact h3
  | 4, _ => exact h4
  | 5, _ => exact h5
theorem lt3 {P : Nat → Prop} (h0 : P 0) (h1 : P 1) (h2 : P 2) {k : Nat} (h : k < 3) : P k := by
  match k, h with
  | 0, _ => exact h0
  | 1, _ => exact h1
  | 2, _ => exact h2
theorem pairs_rl : ([.tup [.int 0, .int 0], .tup [.int 1, .int 1], .tup [.int 2, .int 2], .tup [.int 0, .int 1], .tup [.int 0, .int 2], .tup [.int 1, .int 2]] : List PV) = rl 6 fun k => .tup [.int (pa k), .int (pb k)] := by rfl
theorem ix_pairs {k : Nat} (h : k < 6) : ix (.tup [.tup [.int 0, .int 0], .tup [.int 1, .int 1], .tup [.int 2, .int 2], .tup [.int 0, .int 1], .tup [.int 0, .int 2], .tup [.int 1, .int 2]]) (.int k) = sh (.tup [.int (pa k), .int (pb k)]) := by
  rw [pairs_rl]
  exact ix_rlT h
theorem gd0 {a b : PV} : [a, b].getD 0 .non = a := nr rfl
theorem gd1 {a b : PV} : [a, b].getD 1 .non = b := nr rfl

/-! ### moments -/
section
variable {C : Cl} {V V' : Rat} {F S F' S' : Nat → Rat}
theorem s_added (hp : S_add C "plus") (h0 : bz V + bz V' ≤ 4900) (h1 : ∀ k < 3, bz (F k) + bz (F' k) ≤ 4900) (h2 : ∀ k < 6, bz (S k) + bz (S' k) ≤ 4900) :
    mm_added C (mo V F S) (mo V' F' S') = sh (mo (V + V') (fun k => F k + F' k) (fun k => S k + S' k)) := by
  unfold mm_added
  simp only [jn_def, mo0, mo1, mo2, sh_bind, ob_some, om_some, List.append_nil, List.cons_append, List.nil_append]
  rw [comp3 (fun k => fr (F k + F' k)) (fun k hk => by
    rw [ix_rlT hk, ix_rlT hk]; simp only [sh_bind, ob_some, om_some]; rw [hp _ _ (h1 k hk)]; rfl)]
  simp only [ob_some, tuple_lst, sh_bind]
  rw [comp6 (fun k => fr (S k + S' k)) (fun k hk => by
    rw [ix_rlT hk, ix_rlT hk]; simp only [sh_bind, ob_some, om_some]; rw [hp _ _ (h2 k hk)]; rfl)]
  rw [hp _ _ h0]
  rfl
theorem s_ladded (hp : S_add C "_law_plus") (h0 : bz V + bz V' ≤ 4900) (h1 : ∀ k < 3, bz (F k) + bz (F' k) ≤ 4900) (h2 : ∀ k < 6, bz (S k) + bz (S' k) ≤ 4900) :
    mm__law_added C (mo V F S) (mo V' F' S') = sh (mo (V + V') (fun k => F k + F' k) (fun k => S k + S' k)) := by
  unfold mm__law_added
  simp only [jn_def, mo0, mo1, mo2, sh_bind, ob_some, om_some, List.append_nil, List.cons_append, List.nil_append]
  rw [comp3 (fun k => fr (F k + F' k)) (fun k hk => by
    rw [ix_rlT hk, ix_rlT hk]; simp only [sh_bind, ob_some, om_some]; rw [hp _ _ (h1 k hk)]; rfl)]
  simp only [ob_some, tuple_lst, sh_bind]
  rw [comp6 (fun k => fr (S k + S' k)) (fun k hk => by
    rw [ix_rlT hk, ix_rlT hk]; simp only [sh_bind, ob_some, om_some]; rw [hp _ _ (h2 k hk)]; rfl)]
  rw [hp _ _ h0]
  rfl
/-- sums of moments -/
def mos (n : Nat) (V : Nat → Rat) (F S : Nat → Nat → Rat) : PV := mo (sm n V) (fun i => sm n fun k => F k i) (fun i => sm n fun k => S k i)
def S_added (C : Cl) (f : Str) : Prop := ∀ V V' F F' S S', bz V + bz V' ≤ 4900 → (∀ k < 3, bz (F k) + bz (F' k) ≤ 4900) → (∀ k < 6, bz (S k) + bz (S' k) ≤ 4900) →
    C f [mo V F S, mo V' F' S'] = sh (mo (V + V') (fun k => F k + F' k) (fun k => S k + S' k))
theorem added_step {f : Str} (ha : S_added C f) {V : Nat → Rat} {F S : Nat → Nat → Rat} {n b : Nat} (hn : n ≤ 4) (hb : b ≤ 600) (h0 : ∀ k < n, bz (V k) ≤ b) (h1 : ∀ k < n, ∀ i < 3, bz (F k i) ≤ b) (h2 : ∀ k < n, ∀ i < 6, bz (S k i) ≤ b) {k : Nat} (hk : k < n) :
    C f [mos k V F S, mo (V k) (F k) (S k)] = sh (mos (k + 1) V F S) := by
  have q : k * (b + 1) + 1 + b ≤ 4900 := by
    have : k * (b + 1) ≤ 4 * 601 := Nat.mul_le_mul (by omega) (by omega)
    omega
  refine ha _ _ _ _ _ _ ?_ ?_ ?_
  · have := bz_sm k fun j hj => h0 j (by omega)
    have := h0 k hk
    omega
  · intro i hi
    have := bz_sm (f := fun j => F j i) k fun j hj => h1 j (by omega) i hi
    have := h1 k hk i hi
    show bz (sm k fun j => F j i) + _ ≤ _
    omega
  · intro i hi
    have := bz_sm (f := fun j => S j i) k fun j hj => h2 j (by omega) i hi
    have := h2 k hk i hi
    show bz (sm k fun j => S j i) + _ ≤ _
    omega
theorem s_joined (ha : S_added C "added") {V : Nat → Rat} {F S : Nat → Nat → Rat} {n b : Nat} (hn : n ≤ 4) (hb : b ≤ 600) (h0 : ∀ k < n, bz (V k) ≤ b) (h1 : ∀ k < n, ∀ i < 3, bz (F k i) ≤ b) (h2 : ∀ k < n, ∀ i < 6, bz (S k i) ≤ b) :
    mm_joined_moments C (.lst (rl n fun k => mo (V k) (F k) (S k))) = sh (mos n V F S) := by
  unfold mm_joined_moments
  simp only [jn_def]
  rw [seq_l (by omega), ob_some, mo_nil, forC_rl _ (fun k => mos k V F S) n (by rfl)]
  · rfl
  · intro k hk kn kb
    rw [added_step ha hn hb h0 h1 h2 hk, cl1_sh, sh_bind]
/-- shifted -/
def shF (V : Rat) (F s : Nat → Rat) (k : Nat) : Rat := F k + V * s k
def shS (V : Rat) (F S s : Nat → Rat) (k : Nat) : Rat := S k + (s (pa k) * F (pb k) + s (pb k) * shF V F s (pa k))
theorem s_shifted (hp : S_add C "plus") (hm : S_mul C "times") {X : PV} {s : Nat → Rat} (hX : vec X s) (h0 : bz V ≤ 600) (h1 : ∀ k < 3, bz (F k) ≤ 600) (h2 : ∀ k < 6, bz (S k) ≤ 600) (h3 : ∀ k < 3, bz (s k) ≤ 100) :
    mm_shifted_moments C (mo V F S) X = sh (mo V (shF V F s) (shS V F S s)) := by
  have bF : ∀ k < 3, bz (shF V F s k) ≤ 1301 := fun k hk => by
    have := bz_add (F k) (V * s k)
    have := bz_mul V (s k)
    have := h1 k hk
    have := h3 k hk
    show bz (F k + V * s k) ≤ _
    omega
  unfold mm_shifted_moments
  simp only [jn_def]
  rw [show unT 3 (mo V F S) = some [fr V, .tup (lf 3 F), .tup (lf 6 S)] from unT3]
  simp only [ob_some, List.getD_cons_zero, List.getD_cons_succ]
  rw [comp3 (fun k => fr (shF V F s k)) (fun k hk => by
    have := bz_mul V (s k)
    have := h1 k hk
    have := h3 k hk
    rw [ix_rlT hk, hX k hk]; simp only [sh_bind, ob_some, om_some, List.append_nil]; rw [hm _ _ (by omega), cl1_sh]; simp only [sh_bind, ob_some, om_some]; rw [hp _ _ (by omega)]; rfl)]
  simp only [ownO_own, ob_some]
  rw [rng6, ob_some, forC_rl _ (fun k => lf k (shS V F S s)) 6 (by rfl)]
  · rfl
  · intro k hk kn kb
    have ha := pa_lt hk
    have hb := pb_lt hk
    have := bz_mul (s (pa k)) (F (pb k))
    have := bz_mul (s (pb k)) (shF V F s (pa k))
    have := bz_add (s (pa k) * F (pb k)) (s (pb k) * shF V F s (pa k))
    have := h1 _ hb
    have := h3 _ ha
    have := h3 _ hb
    have := bF _ ha
    have := h2 k hk
    rw [ix_pairs hk, sh_bind, unT2, ob_some]
    simp only [gd0, gd1]
    rw [hX _ ha, hX _ hb, ix_rlT hb, ix_rlL ha]
    simp only [sh_bind, ob_some, om_some, List.append_nil]
    rw [hm _ _ (by omega), cl1_sh, hm _ _ (by omega), cl1_sh]
    simp only [sh_bind, ob_some, om_some]
    rw [hp _ _ (by omega), cl1_sh, sh_bind, ix_rlT hk]
    simp only [sh_bind, ob_some]
    rw [hp _ _ (by omega), cl1_sh, sh_bind, push_rl (by omega) (by rfl), ob_some]
theorem comp_t {n : Nat} {em g : Nat → PV} {step : PV → Option (Option PV)} (hn : n ≤ 1000) (h : ∀ k < n, step (em k) = some (some (g k))) :
    ((seqOf (.tup (rl n em))).bind fun xs => (compM step xs).bind fun ys => some (PV.lst ys, true)) = some (.lst (rl n g), true) := by
  rw [seq_t hn, ob_some, compM_rl n h, ob_some]
theorem s_weighed (hm : S_mul C "times") {f : Rat} (h0 : bz f + bz V ≤ 4900) (h1 : ∀ k < 3, bz f + bz (F k) ≤ 4900) (h2 : ∀ k < 6, bz f + bz (S k) ≤ 4900) :
    mm_weighed C (mo V F S) (fr f) = sh (mo (f * V) (fun k => f * F k) (fun k => f * S k)) := by
  unfold mm_weighed
  simp only [mo0, mo1, mo2, sh_bind, ob_some, om_some, List.append_nil]
  rw [comp_t (g := fun k => fr (f * F k)) (by omega) (fun k hk => by rw [hm _ _ (h1 k hk)]; rfl)]
  rw [comp_t (g := fun k => fr (f * S k)) (by omega) (fun k hk => by rw [hm _ _ (h2 k hk)]; rfl)]
  rw [hm _ _ h0]
  rfl
theorem s_centre (hd : S_div C "over") (h : V ≠ 0) (h1 : ∀ k < 3, bz (F k) + bz V ≤ 4900) :
    mm_centre_of C (mo V F S) = sh (.tup (lf 3 fun k => F k / V)) := by
  unfold mm_centre_of
  simp only [mo0, mo1, mo2, sh_bind, ob_some, om_some, List.append_nil, fr0, cmp_eq, eqD_int]
  rw [decide_eq_false (fun e => h ((num_zero_iff V).mp e))]
  simp only [Bool.false_eq_true, if_false]
  rw [comp_t (g := fun k => fr (F k / V)) (by omega) (fun k hk => by rw [hd _ _ h (h1 k hk)]; rfl)]
  rfl
theorem s_lcentre (hd : S_div C "_law_over") (h : V ≠ 0) (h1 : ∀ k < 3, bz (F k) + bz V ≤ 4900) :
    mm__law_centre C (mo V F S) = sh (.tup (lf 3 fun k => F k / V)) := by
  unfold mm__law_centre
  simp only [mo0, mo1, mo2, sh_bind, ob_some, om_some, List.append_nil]
  rw [comp_t (g := fun k => fr (F k / V)) (by omega) (fun k hk => by rw [hd _ _ h (h1 k hk)]; rfl)]
  rfl
theorem s_about (hn : ∀ x, C "negative" [fr x] = sh (fr (-x))) {p : Nat → Rat} {R : Nat → Rat} {G : Nat → Rat} {U : Rat} (hs : C "shifted_moments" [mo V F S, .lst (lf 3 fun k => -p k)] = sh (mo U G R)) :
    mm_about C (mo V F S) (.tup (lf 3 p)) = sh (.tup (lf 6 R)) := by
  unfold mm_about
  rw [comp_t (g := fun k => fr (-p k)) (by omega) (fun k hk => by rw [hn]; rfl)]
  simp only [mo0, mo1, mo2, sh_bind, ob_some, om_some, List.append_nil, hs, cl1_sh]
  rfl
end

/-! ### turning -/
def dirV (d : Nat → Int) : PV := .tup (rl 3 fun k => .int (d k))
def qd (d : Nat → Int) (k : Nat) : Int := d (pa k) * d (pb k) * (if pa k = pb k then 1 else 2)
def sqd (d : Nat → Int) : Int := d 0 * d 0 + d 1 * d 1 + d 2 * d 2
def turn (S : Nat → Rat) (d : Nat → Int) (n : Nat) : Rat := (S 0 + S 1 + S 2) * (sqd d : Int) - sm n fun k => S k * (qd d k : Int)
theorem bz_int {i : Int} {k : Nat} (h : i.natAbs < 2 ^ k) (hk : 0 < k) : bz (i : Rat) ≤ k := by
  show max (nb (i : Rat).num.natAbs) (nb (i : Rat).den) ≤ k
  rw [Rat.num_intCast, Rat.den_intCast]
  have := nb_le h hk
  have : nb 1 = 1 := by decide
  omega
theorem nb_mul3 {a b : Int} {x y : Nat} (ha : nb a.natAbs ≤ x) (hb : nb b.natAbs ≤ y) : nb (a * b).natAbs ≤ x + y := by
  have := nb_mulI a b
  omega
section
variable {C : Cl} {S : Nat → Rat} {d : Nat → Int}
theorem d_nb (hd : ∀ k < 3, (d k).natAbs ≤ 6) {k : Nat} (h : k < 3) : nb (d k).natAbs ≤ 3 := nb_le (by have := hd k h; omega) (by omega)
theorem bz_of_nb {i : Int} {k : Nat} (h : nb i.natAbs ≤ k) : bz (i : Rat) ≤ k := by
  show max (nb (i : Rat).num.natAbs) (nb (i : Rat).den) ≤ k
  rw [Rat.num_intCast, Rat.den_intCast]
  have := nb_pos i.natAbs
  have : nb 1 = 1 := by decide
  omega
theorem qd_nb (hd : ∀ k < 3, (d k).natAbs ≤ 6) {k : Nat} (h : k < 6) : nb (qd d k).natAbs ≤ 8 := by
  unfold qd
  have h1 := nb_mul3 (d_nb hd (pa_lt h)) (d_nb hd (pb_lt h))
  have : nb (if pa k = pb k then (1 : Int) else 2).natAbs ≤ 2 := by split <;> decide
  exact nb_mul3 h1 this
theorem sqd_nb (hd : ∀ k < 3, (d k).natAbs ≤ 6) : nb (sqd d).natAbs ≤ 8 := by
  unfold sqd
  have h0 := nb_mul3 (d_nb hd (k := 0) (by omega)) (d_nb hd (k := 0) (by omega))
  have h1 := nb_mul3 (d_nb hd (k := 1) (by omega)) (d_nb hd (k := 1) (by omega))
  have h2 := nb_mul3 (d_nb hd (k := 2) (by omega)) (d_nb hd (k := 2) (by omega))
  have h3 := nb_addI (d 0 * d 0) (d 1 * d 1)
  have h4 := nb_addI (d 0 * d 0 + d 1 * d 1) (d 2 * d 2)
  omega
theorem turn_bz (hS : ∀ k < 6, bz (S k) ≤ 435) (hd : ∀ k < 3, (d k).natAbs ≤ 6) {n : Nat} (hn : n ≤ 6) : bz (turn S d n) ≤ 1318 + n * 445 := by
  have e1 := bz_sm (b := 443) (f := fun k => S k * (qd d k : Int)) n fun k hk => by
    have := bz_mul (S k) (qd d k : Int)
    have := hS k (by omega)
    have := bz_of_nb (qd_nb hd (k := k) (by omega))
    show bz (S k * (qd d k : Int)) ≤ 443
    omega
  have e2 := bz_add (S 0) (S 1)
  have e3 := bz_add (S 0 + S 1) (S 2)
  have e4 := bz_mul (S 0 + S 1 + S 2) (sqd d : Int)
  have e5 := bz_of_nb (sqd_nb hd)
  have e6 := bz_sub ((S 0 + S 1 + S 2) * (sqd d : Int)) (sm n fun k => S k * (qd d k : Int))
  have := hS 0 (by omega)
  have := hS 1 (by omega)
  have := hS 2 (by omega)
  have : n * (443 + 1) + n = n * 445 := by omega
  show bz (_ - _) ≤ _
  omega
theorem s_turning {M P : PV} (hfr : S_fraction C) (hdv : S_div C "over") (hm : S_mul C "times") (hi : S_sub C "minus") (ha : C "about" [M, P] = sh (.tup (lf 6 S))) (hdot : C "dot" [dirV d, dirV d] = sh (.int (sqd d)))
    (ht : C "total" [.lst [fr (S 0), fr (S 1), fr (S 2)]] = sh (fr (S 0 + S 1 + S 2))) (hS : ∀ k < 6, bz (S k) ≤ 435) (hd : ∀ k < 3, (d k).natAbs ≤ 6) (h0 : sqd d ≠ 0) :
    mm_turning C M P (dirV d) = sh (fr (turn S d 6 / (sqd d : Int))) := by
  have e5 := bz_of_nb (sqd_nb hd)
  unfold mm_turning
  simp only [jn_def, ha, hdot, cl1_sh, sh_bind]
  rw [show sl (.tup (lf 6 S)) none (some 3) = sh (.tup [fr (S 0), fr (S 1), fr (S 2)]) from rfl]
  simp only [sh_bind, ob_some, list_tup, List.append_nil, ht, cl1_sh]
  rw [fr_int (sqd d)]
  have e2 := bz_add (S 0) (S 1)
  have e3 := bz_add (S 0 + S 1) (S 2)
  have := hS 0 (by omega)
  have := hS 1 (by omega)
  have := hS 2 (by omega)
  rw [hm _ _ (by omega), cl1_sh, sh_bind, rng6, ob_some, forC_rl _ (fun k => fr (turn S d k)) 6 (by show _ = fr (_ - 0); rw [Rat.sub_eq_add_neg, show -(0 : Rat) = 0 from rfl, Rat.add_zero])]
  · rw [hfr _ _ (by omega) (by decide), cl1_sh, sh_bind, show Rat.divInt (sqd d) 1 = ((sqd d : Int) : Rat) from Rat.num_divInt_den ((sqd d : Int) : Rat)]
    simp only [ob_some, om_some, List.append_nil]
    have := turn_bz hS hd (n := 6) (by omega)
    rw [hdv _ _ (by intro e; exact h0 (by exact_mod_cast e)) (by omega), cl1_sh, sh_bind]
    rfl
  · intro k hk kn kb
    have ea := pa_lt hk
    have eb := pb_lt hk
    have e1 := d_nb hd ea
    have e2 := d_nb hd eb
    have e4 := nb_mul3 e1 e2
    have e6 : nb (if pa k = pb k then (1 : Int) else 2).natAbs ≤ 2 := by split <;> decide
    have e7 := bz_of_nb (qd_nb hd hk)
    have e8 := hS k hk
    have e9 := turn_bz hS hd (n := k) (by omega)
    have e10 := bz_mul (S k) (qd d k : Int)
    rw [ix_pairs hk, sh_bind, unT2, ob_some]
    simp only [gd0, gd1, dirV]
    rw [ix_rlT ea, sh_bind, ix_rlT eb, sh_bind, op2_mul (mulOk_nb (by omega)), sh_bind, cmp_eq, eqD_int, ob_some]
    rw [show (if decide ((pa k : Int) = pb k) = true then sh (.int 1) else sh (.int 2)) = sh (.int (if pa k = pb k then 1 else 2)) by
      by_cases q : pa k = pb k
      · simp [q]
      · have : ¬ ((pa k : Int) = pb k) := by omega
        simp [q, this]]
    rw [sh_bind, op2_mul (mulOk_nb (by omega)), sh_bind, ix_rlT hk]
    rw [show d (pa k) * d (pb k) * (if pa k = pb k then 1 else 2) = qd d k from rfl]
    simp only [sh_bind, ob_some, om_some, List.append_nil, fr_int]
    have : k * 445 ≤ 5 * 445 := Nat.mul_le_mul (by omega) (by omega)
    rw [hm _ _ (by omega), cl1_sh]
    simp only [sh_bind, ob_some, om_some, List.append_nil]
    rw [hi _ _ (by omega), cl1_sh, sh_bind]
    show kn (fr _) = kn (fr _)
    refine congrArg (fun z => kn (fr z)) ?_
    show _ - _ - _ = _ - (_ + _)
    grind
def lturn (S : Nat → Rat) (d : Nat → Int) : Rat := 0 + ((d 1 * d 1 + d 2 * d 2 : Int) : Rat) * S 0 + ((d 0 * d 0 + d 2 * d 2 : Int) : Rat) * S 1 + ((d 0 * d 0 + d 1 * d 1 : Int) : Rat) * S 2
  + ((-2 * d 0 * d 1 : Int) : Rat) * S 3 + ((-2 * d 0 * d 2 : Int) : Rat) * S 4 + ((-2 * d 1 * d 2 : Int) : Rat) * S 5
theorem s_lturning (hdv : S_div C "_law_over") (hm : S_mul C "_law_times") (hp : S_add C "_law_plus") (hS : ∀ k < 6, bz (S k) ≤ 435) (hd : ∀ k < 3, (d k).natAbs ≤ 6) (h0 : sqd d ≠ 0) :
    mm__law_turning C (.lst (lf 6 S)) (dirV d) = sh (fr (lturn S d / (sqd d : Int))) := by
  have b0 := d_nb hd (k := 0) (by omega)
  have b1 := d_nb hd (k := 1) (by omega)
  have b2 := d_nb hd (k := 2) (by omega)
  have s0 := nb_mul3 b0 b0
  have s1 := nb_mul3 b1 b1
  have s2 := nb_mul3 b2 b2
  have n2 : nb (-2 : Int).natAbs ≤ 2 := by decide
  have t0 := nb_mul3 n2 b0
  have t1 := nb_mul3 n2 b1
  have c3 := nb_mul3 t0 b1
  have c4 := nb_mul3 t0 b2
  have c5 := nb_mul3 t1 b2
  have c0 := nb_addI (d 1 * d 1) (d 2 * d 2)
  have c1 := nb_addI (d 0 * d 0) (d 2 * d 2)
  have c2 := nb_addI (d 0 * d 0) (d 1 * d 1)
  have k0 := bz_of_nb (show nb (d 1 * d 1 + d 2 * d 2).natAbs ≤ 8 by omega)
  have k1 := bz_of_nb (show nb (d 0 * d 0 + d 2 * d 2).natAbs ≤ 8 by omega)
  have k2 := bz_of_nb (show nb (d 0 * d 0 + d 1 * d 1).natAbs ≤ 8 by omega)
  have k3 := bz_of_nb c3
  have k4 := bz_of_nb c4
  have k5 := bz_of_nb c5
  have e5 := bz_of_nb (sqd_nb hd)
  have h0' := hS 0 (by omega)
  have h1' := hS 1 (by omega)
  have h2' := hS 2 (by omega)
  have h3' := hS 3 (by omega)
  have h4' := hS 4 (by omega)
  have h5' := hS 5 (by omega)
  have I : ∀ k, k < 6 → ix (.lst (lf 6 S)) (.int (k : Nat)) = sh (fr (S k)) := fun k hk => ix_rlL hk
  have I0 : ix (.lst (lf 6 S)) (.int 0) = sh (fr (S 0)) := I 0 (by omega)
  have I1 : ix (.lst (lf 6 S)) (.int 1) = sh (fr (S 1)) := I 1 (by omega)
  have I2 : ix (.lst (lf 6 S)) (.int 2) = sh (fr (S 2)) := I 2 (by omega)
  have I3 : ix (.lst (lf 6 S)) (.int 3) = sh (fr (S 3)) := I 3 (by omega)
  have I4 : ix (.lst (lf 6 S)) (.int 4) = sh (fr (S 4)) := I 4 (by omega)
  have I5 : ix (.lst (lf 6 S)) (.int 5) = sh (fr (S 5)) := I 5 (by omega)
  have e6 : sqd d = d 0 * d 0 + d 1 * d 1 + d 2 * d 2 := rfl
  unfold mm__law_turning lturn
  simp only [jn_def]
  rw [show unT 3 (dirV d) = some [.int (d 0), .int (d 1), .int (d 2)] from rfl]
  simp only [ob_some, List.getD_cons_zero, List.getD_cons_succ]
  rw [op2_mul (mulOk_nb (show nb (d 0).natAbs + nb (d 0).natAbs ≤ _ by omega)), op2_mul (mulOk_nb (show nb (d 1).natAbs + nb (d 1).natAbs ≤ _ by omega)), op2_mul (mulOk_nb (show nb (d 2).natAbs + nb (d 2).natAbs ≤ _ by omega))]
  rw [op2_mul (mulOk_nb (show nb (-2 : Int).natAbs + nb (d 0).natAbs ≤ _ by omega)), op2_mul (mulOk_nb (show nb (-2 : Int).natAbs + nb (d 1).natAbs ≤ _ by omega))]
  simp only [sh_bind, op2_add, ob_some, om_some]
  rw [op2_mul (mulOk_nb (show nb (-2 * d 0).natAbs + nb (d 1).natAbs ≤ _ by omega)), op2_mul (mulOk_nb (show nb (-2 * d 0).natAbs + nb (d 2).natAbs ≤ _ by omega)), op2_mul (mulOk_nb (show nb (-2 * d 1).natAbs + nb (d 2).natAbs ≤ _ by omega))]
  simp only [sh_bind, op2_add, ob_some, om_some]
  rw [seqOf_lst (by simp), ob_some]
  have hm' : ∀ (i : Int) (y : Rat), bz (i : Rat) + bz y ≤ 4900 → C "_law_times" [.tup [.int i, .int 1], fr y] = sh (fr ((i : Rat) * y)) := fun i y h => hm i y h
  have hp' : ∀ (y : Rat), bz 0 + bz y ≤ 4900 → C "_law_plus" [.tup [.int 0, .int 1], fr y] = sh (fr (0 + y)) := fun y h => hp 0 y h
  have hd' : ∀ (y : Rat), bz y + bz ((sqd d : Int) : Rat) ≤ 4900 → C "_law_over" [fr y, .tup [.int (sqd d), .int 1]] = sh (fr (y / (sqd d : Int))) := fun y h => hdv y (sqd d : Int) (by intro e; exact h0 (by exact_mod_cast e)) h
  have m0 := bz_mul ((d 1 * d 1 + d 2 * d 2 : Int) : Rat) (S 0)
  have m1 := bz_mul ((d 0 * d 0 + d 2 * d 2 : Int) : Rat) (S 1)
  have m2 := bz_mul ((d 0 * d 0 + d 1 * d 1 : Int) : Rat) (S 2)
  have m3 := bz_mul ((-2 * d 0 * d 1 : Int) : Rat) (S 3)
  have m4 := bz_mul ((-2 * d 0 * d 2 : Int) : Rat) (S 4)
  have m5 := bz_mul ((-2 * d 1 * d 2 : Int) : Rat) (S 5)
  have z0 := bz_zero
  have f0 := hm' _ _ (show bz ((d 1 * d 1 + d 2 * d 2 : Int) : Rat) + bz (S 0) ≤ 4900 by omega)
  have f1 := hm' _ _ (show bz ((d 0 * d 0 + d 2 * d 2 : Int) : Rat) + bz (S 1) ≤ 4900 by omega)
  have f2 := hm' _ _ (show bz ((d 0 * d 0 + d 1 * d 1 : Int) : Rat) + bz (S 2) ≤ 4900 by omega)
  have f3 := hm' _ _ (show bz ((-2 * d 0 * d 1 : Int) : Rat) + bz (S 3) ≤ 4900 by omega)
  have f4 := hm' _ _ (show bz ((-2 * d 0 * d 2 : Int) : Rat) + bz (S 4) ≤ 4900 by omega)
  have f5 := hm' _ _ (show bz ((-2 * d 1 * d 2 : Int) : Rat) + bz (S 5) ≤ 4900 by omega)
  generalize ((d 1 * d 1 + d 2 * d 2 : Int) : Rat) * S 0 = x0 at *
  generalize ((d 0 * d 0 + d 2 * d 2 : Int) : Rat) * S 1 = x1 at *
  generalize ((d 0 * d 0 + d 1 * d 1 : Int) : Rat) * S 2 = x2 at *
  generalize ((-2 * d 0 * d 1 : Int) : Rat) * S 3 = x3 at *
  generalize ((-2 * d 0 * d 2 : Int) : Rat) * S 4 = x4 at *
  generalize ((-2 * d 1 * d 2 : Int) : Rat) * S 5 = x5 at *
  have g0 := bz_add 0 x0
  have g1 := bz_add (0 + x0) x1
  have g2 := bz_add (0 + x0 + x1) x2
  have g3 := bz_add (0 + x0 + x1 + x2) x3
  have g4 := bz_add (0 + x0 + x1 + x2 + x3) x4
  have g5 := bz_add (0 + x0 + x1 + x2 + x3 + x4) x5
  have p0 := hp' x0 (by omega)
  have p1 := hp (0 + x0) x1 (by omega)
  have p2 := hp (0 + x0 + x1) x2 (by omega)
  have p3 := hp (0 + x0 + x1 + x2) x3 (by omega)
  have p4 := hp (0 + x0 + x1 + x2 + x3) x4 (by omega)
  have p5 := hp (0 + x0 + x1 + x2 + x3 + x4) x5 (by omega)
  simp only [forC_cons, forC_nil, unT2, gd0, gd1, ob_some, I0, I1, I2, sh_bind, om_some, List.append_nil, f0, f1, f2, cl1_sh, p0, p1, p2]
  rw [seqOf_lst (by simp), ob_some]
  simp only [forC_cons, forC_nil, unT2, gd0, gd1, ob_some, I3, I4, I5, sh_bind, om_some, List.append_nil, f3, f4, f5, cl1_sh, p3, p4, p5]
  rw [← e6, hd' _ (by omega)]
  rfl
end

/-! ### the law's own -/
section
variable {C : Cl} {l h s : Nat → Rat}
theorem s_lmoved (hp : S_add C "_law_plus") {L X : PV} (hL : vec L l) (hX : vec X s) (hb : ∀ k < 3, bz (l k) + bz (s k) ≤ 4900) :
    mm__law_moved C L X = sh (.tup (lf 3 fun k => l k + s k)) := by
  unfold mm__law_moved
  rw [comp3 (fun k => fr (l k + s k)) (fun k hk => by
    rw [hL k hk, hX k hk]; simp only [sh_bind, ob_some, om_some, List.append_nil]; rw [hp _ _ (hb k hk)]; rfl)]
  rfl
theorem s_lback (hp : S_sub C "_law_minus") {L X : PV} (hL : vec L l) (hX : vec X s) (hb : ∀ k < 3, bz (l k) + bz (s k) ≤ 4900) :
    mm__law_back C L X = sh (.tup (lf 3 fun k => l k - s k)) := by
  unfold mm__law_back
  rw [comp3 (fun k => fr (l k - s k)) (fun k hk => by
    rw [hL k hk, hX k hk]; simp only [sh_bind, ob_some, om_some, List.append_nil]; rw [hp _ _ (hb k hk)]; rfl)]
  rfl
def S_mid (C : Cl) : Prop := ∀ x y, bz x + bz y ≤ 4000 → C "_law_middle" [fr x, fr y] = sh (fr ((x + y) * (1 / 2)))
theorem s_lmiddle (hp : S_add C "_law_plus") (hm : S_mul C "_law_times") (x y : Rat) (hb : bz x + bz y ≤ 4000) : mm__law_middle C (fr x) (fr y) = sh (fr ((x + y) * (1 / 2))) := by
  have := bz_add x y
  unfold mm__law_middle
  rw [hp _ _ (by omega), cl1_sh, sh_bind, fr_half]
  simp only [ob_some, List.append_nil]
  rw [hm _ _ (by rw [bz_half]; omega)]
  rfl
/-- moments of a box -/
def wd (l h : Nat → Rat) (k : Nat) : Rat := h k - l k
def md (l h : Nat → Rat) (k : Nat) : Rat := (l k + h k) * (1 / 2)
def bV (l h : Nat → Rat) : Rat := wd l h 0 * (wd l h 1 * wd l h 2)
def bF (l h : Nat → Rat) (k : Nat) : Rat := bV l h * md l h k
def bQ (l h : Nat → Rat) (k : Nat) : Rat := if pa k = pb k then md l h (pa k) * md l h (pb k) + wd l h (pa k) * wd l h (pa k) * (1 / 12) else md l h (pa k) * md l h (pb k)
def bS (l h : Nat → Rat) (k : Nat) : Rat := bV l h * bQ l h k
theorem s_lpairs (C : Cl) : mm__law_pairs C = some (.lst (rl 6 fun k => .tup [.int (pa k), .int (pb k)]), true) := rfl
theorem s_lbox (hpr : C "_law_pairs" [] = some (.lst (rl 6 fun k => .tup [.int (pa k), .int (pb k)]), true)) (hmid : S_mid C) (hp : S_add C "_law_plus") (hi : S_sub C "_law_minus") (hm : S_mul C "_law_times")
    {L H : PV} (hL : vec L l) (hH : vec H h) (hl : ∀ k < 3, bz (l k) ≤ 100) (hh : ∀ k < 3, bz (h k) ≤ 100) : mm__law_box_moments C L H = sh (mo (bV l h) (bF l h) (bS l h)) := by
  have bw : ∀ k < 3, bz (wd l h k) ≤ 201 := fun k hk => by
    have := bz_sub (h k) (l k)
    have := hl k hk
    have := hh k hk
    show bz (h k - l k) ≤ _
    omega
  have bm : ∀ k < 3, bz (md l h k) ≤ 203 := fun k hk => by
    have := bz_add (l k) (h k)
    have := bz_mul (l k + h k) (1 / 2)
    rw [bz_half] at this
    have := hl k hk
    have := hh k hk
    show bz ((l k + h k) * (1 / 2)) ≤ _
    omega
  have w0 := bw 0 (by omega)
  have w1 := bw 1 (by omega)
  have w2 := bw 2 (by omega)
  have w12 := bz_mul (wd l h 1) (wd l h 2)
  have bv : bz (bV l h) ≤ 603 := by
    have := bz_mul (wd l h 0) (wd l h 1 * wd l h 2)
    show bz (wd l h 0 * (wd l h 1 * wd l h 2)) ≤ _
    omega
  unfold mm__law_box_moments
  simp only [jn_def]
  rw [comp3 (fun k => fr (wd l h k)) (fun k hk => by
    have := hl k hk
    have := hh k hk
    rw [hL k hk, hH k hk]; simp only [sh_bind, ob_some, om_some, List.append_nil]; rw [hi _ _ (by omega)]; rfl)]
  rw [comp3 (fun k => fr (md l h k)) (fun k hk => by
    have := hl k hk
    have := hh k hk
    rw [hL k hk, hH k hk]; simp only [sh_bind, ob_some, om_some, List.append_nil]; rw [hmid _ _ (by omega)]; rfl)]
  simp only [ownO_own, ob_some]
  rw [show ix (.lst (lf 3 (wd l h))) (.int 0) = sh (fr (wd l h 0)) from ix_rlL (i := 0) (by omega), show ix (.lst (lf 3 (wd l h))) (.int 1) = sh (fr (wd l h 1)) from ix_rlL (i := 1) (by omega), show ix (.lst (lf 3 (wd l h))) (.int 2) = sh (fr (wd l h 2)) from ix_rlL (i := 2) (by omega)]
  simp only [sh_bind, ob_some, om_some, List.append_nil]
  rw [hm _ _ (by omega), cl1_sh]
  simp only [sh_bind, ob_some, om_some, List.append_nil]
  rw [hm _ _ (by omega), cl1_sh, sh_bind, hpr, cl2_own, ob_some]
  simp only
  rw [seq_l (by omega), ob_some, forC_rl _ (fun k => lf k (bS l h)) 6 (by rfl)]
  · rw [show seqOf (.lst (lf 3 (md l h))) = some (lf 3 (md l h)) from seq_l (by omega), ob_some, compM_rl 3 (g := fun k => fr (bF l h k)) (fun k hk => by
      have := bm k hk
      rw [hm _ _ (by show bz (bV l h) + _ ≤ _; omega)]; rfl)]
    rfl
  · intro k hk kn kb
    have ea := pa_lt hk
    have eb := pb_lt hk
    have m1 := bm _ ea
    have m2 := bm _ eb
    have w1 := bw _ ea
    have q1 := bz_mul (md l h (pa k)) (md l h (pb k))
    have q2 := bz_mul (wd l h (pa k)) (wd l h (pa k))
    have q3 := bz_mul (wd l h (pa k) * wd l h (pa k)) (1 / 12)
    have q4 := bz_add (md l h (pa k) * md l h (pb k)) (wd l h (pa k) * wd l h (pa k) * (1 / 12))
    rw [bz_12] at q3
    rw [unT2, ob_some]
    simp only [gd0, gd1]
    rw [ix_rlL ea, sh_bind, ix_rlL eb]
    simp only [sh_bind, ob_some, om_some, List.append_nil]
    rw [hm _ _ (by omega), cl1_sh, sh_bind, cmp_eq, eqD_int, ob_some]
    by_cases q : pa k = pb k
    · rw [decide_eq_true (by omega), if_pos rfl, ix_rlL ea]
      simp only [sh_bind, ob_some, om_some, List.append_nil]
      rw [hm _ _ (by omega), cl1_sh, sh_bind, fr_12]
      simp only [sh_bind, ob_some, om_some, List.append_nil]
      rw [hm _ _ (by rw [bz_12]; omega), cl1_sh, sh_bind]
      simp only [sh_bind, ob_some, om_some, List.append_nil]
      rw [hp _ _ (by omega), cl1_sh, sh_bind, show (wd l h 0 * (wd l h 1 * wd l h 2)) = bV l h from rfl, hm _ _ (by omega), cl1_sh, sh_bind, push_rl (by omega) (by show fr _ = fr (bV l h * bQ l h k); rw [bQ, if_pos q]), ob_some]
    · rw [decide_eq_false (by omega), if_neg (by simp), show (wd l h 0 * (wd l h 1 * wd l h 2)) = bV l h from rfl, hm _ _ (by omega), cl1_sh, sh_bind, push_rl (by omega) (by show fr _ = fr (bV l h * bQ l h k); rw [bQ, if_neg q]), ob_some]
end
theorem bz_divI {n d : Int} {a : Nat} (hn : n.natAbs < 2 ^ a) (hd : d.natAbs < 2 ^ a) (ha : 0 < a) : bz (Rat.divInt n d) ≤ a := bz_divInt (nb_le hn ha) (nb_le hd ha)
/-- a drawn point: numerator to 15, divisor to 3 -/
theorem s_lpoint {C : Cl} {cell : Nat} {f : Nat → Int} (hf : ∀ i, 0 ≤ f i ∧ f i < 1000) (hrow : C "_law_row" [.int cell, .int 3, .int 1000] = some (.lst (rl 3 fun i => .int (f i)), true)) (hfr : S_lfraction C) :
    ∃ p : Nat → Rat, (∀ k, bz (p k) ≤ 4) ∧ mm__law_point C (.int cell) = sh (.tup (lf 3 p)) := by
  refine ⟨fun k => Rat.divInt (f k % 31 - 15) (1 + f k / 31 % 3), fun k => bz_divI (by omega) (by omega) (by omega), ?_⟩
  unfold mm__law_point
  rw [hrow, cl2_own, ownO_own, ob_some, comp3 (fun k => fr (Rat.divInt (f k % 31 - 15) (1 + f k / 31 % 3))) (fun k hk => by
    rw [ix_rlL hk, sh_bind, op2_mods (by omega), sh_bind, op2_sub, sh_bind, sh_bind, op2_divs (by omega) (by omega), sh_bind, op2_mods (by omega), sh_bind, op2_add, sh_bind]
    simp only [sh_bind, ob_some, om_some, List.append_nil]
    rw [hfr _ _ (by omega) (Nat.le_trans (nb_le (k := 10) (by omega) (by omega)) (by omega))]
    rfl)]
  rfl
theorem s_lcorners {C : Cl} {cell : Nat} {f : Nat → Int} (hf : ∀ i, 0 ≤ f i ∧ f i < 1000) (hrow : C "_law_row" [.int cell, .int 7, .int 1000] = some (.lst (rl 7 fun i => .int (f i)), true)) (hfr : S_lfraction C) (hp : S_add C "_law_plus") :
    ∃ l w : Nat → Rat, (∀ k, bz (l k) ≤ 3 ∧ bz (w k) ≤ 3 ∧ 0 < w k) ∧ mm__law_corners C (.int cell) = sh (.tup [.lst (lf 3 l), .lst (lf 3 fun k => l k + w k)]) := by
  have b1 : ∀ k, bz (Rat.divInt (f k % 13 - 6) (1 + f 6 % 3)) ≤ 3 := fun k => bz_divI (by omega) (by omega) (by omega)
  have b2 : ∀ k, bz (Rat.divInt (1 + f (3 + k) % 7) (1 + f 6 / 3 % 2)) ≤ 3 := fun k => bz_divI (by omega) (by omega) (by omega)
  have I6 : ix (.lst (rl 7 fun i => .int (f i))) (.int 6) = sh (.int (f 6)) := ix_rlL (i := 6) (by omega)
  refine ⟨fun k => Rat.divInt (f k % 13 - 6) (1 + f 6 % 3), fun k => Rat.divInt (1 + f (3 + k) % 7) (1 + f 6 / 3 % 2), fun k => ⟨b1 k, b2 k, ?_⟩, ?_⟩
  · show 0 < Rat.divInt _ _
    rw [Rat.divInt_eq_div]
    have q1 : (0 : Int) < 1 + f (3 + k) % 7 := by have := hf (3 + k); omega
    have q2 : (0 : Int) < 1 + f 6 / 3 % 2 := by omega
    rw [Rat.lt_div_iff (by exact_mod_cast q2), Rat.zero_mul]
    exact_mod_cast q1
  unfold mm__law_corners
  simp only [jn_def]
  rw [hrow, cl2_own, ownO_own, ob_some, comp3 (fun k => fr (Rat.divInt (f k % 13 - 6) (1 + f 6 % 3))) (fun k hk => by
    rw [ix_rlL (by omega), sh_bind, op2_mods (by omega), sh_bind, op2_sub, sh_bind, I6, sh_bind, op2_mods (by omega), sh_bind, op2_add, sh_bind]
    simp only [sh_bind, ob_some, om_some, List.append_nil]
    rw [hfr _ _ (by omega) (Nat.le_trans (nb_le (k := 10) (by omega) (by omega)) (by omega))]
    rfl), ownO_own, ob_some]
  rw [comp3 (fun k => fr (Rat.divInt (f k % 13 - 6) (1 + f 6 % 3) + Rat.divInt (1 + f (3 + k) % 7) (1 + f 6 / 3 % 2))) (fun k hk => by
    have := b1 k
    have := b2 k
    rw [ix_rlL (by omega), sh_bind, op2_add, sh_bind, show ((3 : Int) + k) = ((3 + k : Nat) : Int) by omega, ix_rlL (by omega), sh_bind, op2_mods (by omega), sh_bind, op2_add, sh_bind, I6, sh_bind, op2_divs (by omega) (by omega), sh_bind, op2_mods (by omega), sh_bind, op2_add, sh_bind]
    simp only [sh_bind, ob_some, om_some, List.append_nil]
    rw [hfr _ _ (by omega) (Nat.le_trans (nb_le (k := 10) (by omega) (by omega)) (by omega)), cl1_sh, sh_bind]
    simp only [sh_bind, ob_some, om_some, List.append_nil]
    rw [hp _ _ (by omega)]
    rfl), ownO_own, ob_some]
theorem setIx_rl {n k : Nat} {g : Nat → PV} {v : PV} (h : k < n) : setIx (rl n g) (.int k) v = some (rl n fun i => if i = k then v else g i) := by
  have e : (rl n g).set k v = rl n fun i => if i = k then v else g i := by
    apply List.ext_getElem?
    intro i
    by_cases hi : i < n
    · rw [rl_get hi, List.getElem?_set]
      by_cases hk : k = i
      · subst hk; simp [h]
      · rw [if_neg hk, rl_get hi]
        have : ¬ i = k := fun z => hk z.symm
        simp [this]
    · rw [List.getElem?_eq_none (by simp; omega), List.getElem?_eq_none (by simp; omega)]
  show ((ixN (rl n g).length k).map fun j => (rl n g).set j v) = _
  unfold ixN
  rw [if_pos (by omega), if_pos (by simp; omega)]
  simp only [om_some, Int.toNat_natCast, e]
/-- a drawn direction -/
theorem s_ldirection {C : Cl} {cell : Nat} {f : Nat → Int} (hf : ∀ i, 0 ≤ f i ∧ f i < 11) (hrow : C "_law_row" [.int cell, .int 3, .int 11] = some (.lst (rl 3 fun i => .int (f i)), true)) :
    ∃ d : Nat → Int, (∀ k < 3, (d k).natAbs ≤ 6) ∧ sqd d ≠ 0 ∧ mm__law_direction C (.int cell) (.int 5) = sh (dirV d) := by
  have I : ∀ {i : Nat}, i < 3 → ix (.lst (rl 3 fun i => .int (f i))) (.int i) = sh (.int (f i)) := fun h => ix_rlL h
  have I0 : ix (.lst (rl 3 fun i => .int (f i))) (.int 0) = sh (.int (f 0)) := I (i := 0) (by omega)
  have I1 : ix (.lst (rl 3 fun i => .int (f i))) (.int 1) = sh (.int (f 1)) := I (i := 1) (by omega)
  have I2 : ix (.lst (rl 3 fun i => .int (f i))) (.int 2) = sh (.int (f 2)) := I (i := 2) (by omega)
  have J : ∀ g : Nat → Int, ((((ix (.lst (rl 3 fun i => .int (g i))) (.int 0)).bind fun p21 => op2 .Sub p21.1 (.int 5)).bind fun p27 => (((ix (.lst (rl 3 fun i => .int (g i))) (.int 1)).bind fun p22 => op2 .Sub p22.1 (.int 5)).bind fun p25 => (((ix (.lst (rl 3 fun i => .int (g i))) (.int 2)).bind fun p23 => op2 .Sub p23.1 (.int 5)).bind fun p24 => some [p24.1]).map fun q26 => p25.1 :: q26).map fun q28 => p27.1 :: q28).bind fun q29 => sh (.tup q29)) = sh (dirV fun k => g k - 5) := by
    intro g
    have I0 : ix (.lst (rl 3 fun i => .int (g i))) (.int 0) = sh (.int (g 0)) := ix_rlL (i := 0) (by omega)
    have I1 : ix (.lst (rl 3 fun i => .int (g i))) (.int 1) = sh (.int (g 1)) := ix_rlL (i := 1) (by omega)
    have I2 : ix (.lst (rl 3 fun i => .int (g i))) (.int 2) = sh (.int (g 2)) := ix_rlL (i := 2) (by omega)
    simp only [I0, I1, I2, sh_bind, op2_sub, ob_some, om_some]
    rfl
  have sq1 : ∀ x : Int, x ≠ 0 → 0 < x * x := fun x h => by
    rcases Int.lt_or_gt_of_ne h with h | h
    · exact Int.mul_pos_of_neg_of_neg h h
    · exact Int.mul_pos h h
  have sq : ∀ x : Int, 0 ≤ x * x ∧ (x ≠ 0 → 0 < x * x) := fun x => ⟨by
    by_cases h : x = 0
    · rw [h]; decide
    · have := sq1 x h; omega, sq1 x⟩
  have ne : ∀ d : Nat → Int, (∃ k : Nat, k < 3 ∧ d k ≠ 0) → sqd d ≠ 0 := by
    rintro d ⟨k, hk, h⟩
    have a0 := sq (d 0)
    have a1 := sq (d 1)
    have a2 := sq (d 2)
    have := (sq (d k)).2 h
    unfold sqd
    match k, hk with
    | 0, _ => omega
    | 1, _ => omega
    | 2, _ => omega
  unfold mm__law_direction
  simp only [jn_def]
  rw [op2_mul (mulOk_of 10 10 (by decide) (by decide) (by omega) (by omega) (by omega))]
  simp only [sh_bind, op2_add, ob_some, om_some, List.append_nil]
  rw [show C "_law_row" [.int cell, .int 3, .int (2 * 5 + 1)] = _ from hrow, cl2_own, ownO_own, ob_some]
  simp only [I0, I1, I2, sh_bind, cmp_eq, eqD_int, ob_some]
  by_cases e : f 0 = 5 ∧ f 1 = 5 ∧ f 2 = 5
  · obtain ⟨e0, e1, e2⟩ := e
    obtain ⟨q, hq, hq3⟩ : ∃ q : Nat, (cell : Int) % 3 = (q : Int) ∧ q < 3 := ⟨((cell : Int) % 3).toNat, by omega, by omega⟩
    refine ⟨fun k => (if k = q then 6 else f k) - 5, fun k hk => by have := hf k; show (_ - 5 : Int).natAbs ≤ 6; split <;> omega, ne _ ⟨q, hq3, by simp⟩, ?_⟩
    simp only [e0, e1, e2, decide_true, if_true, op2_add, int_int, sh_bind]
    rw [op2_mods (by omega), sh_bind, hq]
    simp only []
    rw [setIx_rl hq3, show (fun i => if i = q then PV.int (5 + 1) else PV.int (f i)) = fun i => .int (if i = q then 6 else f i) by funext i; split <;> rfl]
    rw [ob_some, if_pos rfl, ob_some]
    exact (congrArg (fun o : Out => o.bind fun p30 => some (p30.1, p30.2)) (J fun i => if i = q then 6 else f i)).trans rfl
  · refine ⟨fun k => f k - 5, fun k hk => by have := hf k; show (f k - 5).natAbs ≤ 6; omega, ne _ ?_, ?_⟩
    · by_cases e0 : f 0 = 5
      · by_cases e1 : f 1 = 5
        · exact ⟨2, by omega, by have : f 2 ≠ 5 := fun e2 => e ⟨e0, e1, e2⟩; show f 2 - 5 ≠ 0; omega⟩
        · exact ⟨1, by omega, by show f 1 - 5 ≠ 0; omega⟩
      · exact ⟨0, by omega, by show f 0 - 5 ≠ 0; omega⟩
    · have t : (if decide (f 0 = 5) = true then if decide (f 1 = 5) = true then some (decide (f 2 = 5)) else some false else some false) = some false := by
        by_cases e0 : f 0 = 5
        · by_cases e1 : f 1 = 5
          · have : f 2 ≠ 5 := fun e2 => e ⟨e0, e1, e2⟩
            simp [e0, e1, this]
          · simp [e0, e1]
        · simp [e0]
      rw [t, ob_some, if_neg (by decide)]
      simp only [op2_sub, sh_bind, ob_some, om_some]
      rfl
end K77

namespace K77
open PySem L2 Pv

theorem jn_at {S : Type} {R : S → Out} {A : (S → Out) → Out} {r : Out} (s : S) (hA : ∀ j, A j = j s) (hR : R s = r) : jn R A = r := by
  rw [jn_def, hA, hR]
theorem tl_pl {n : Nat} {t : Nat → Rat} : (PV.tup (lf n t)).pl = true ∧ (PV.tup (lf n t)).dp ≤ 2 := by
  constructor
  · show PV.pls _ = true
    rw [pls_all]
    intro x hx
    obtain ⟨k, _, rfl⟩ := List.mem_map.mp hx
    exact fr_pl
  · show PV.dps _ + 1 ≤ 2
    have : PV.dps (lf n t) ≤ 1 := by
      rw [dps_le]
      intro x hx
      obtain ⟨k, _, rfl⟩ := List.mem_map.mp hx
      simp
    omega
theorem eq_tl {n : Nat} {t : Nat → Rat} : eqD (.tup (lf n t)) (.tup (lf n t)) = some true := eqD_self tl_pl.1 (by have := tl_pl (n := n) (t := t) |>.2; omega)
theorem mo_pl {V : Rat} {F S : Nat → Rat} : (mo V F S).pl = true ∧ (mo V F S).dp ≤ 3 := by
  have a := tl_pl (n := 3) (t := F)
  have b := tl_pl (n := 6) (t := S)
  constructor
  · show PV.pls _ = true
    rw [pls_all]
    intro x hx
    simp at hx
    rcases hx with rfl | rfl | rfl
    · exact fr_pl
    · exact a.1
    · exact b.1
  · show PV.dps _ + 1 ≤ 3
    have : PV.dps [fr V, .tup (lf 3 F), .tup (lf 6 S)] ≤ 2 := by
      rw [dps_le]
      intro x hx
      simp at hx
      rcases hx with rfl | rfl | rfl
      · simp
      · exact a.2
      · exact b.2
    omega
theorem eq_mo {V : Rat} {F S : Nat → Rat} : eqD (mo V F S) (mo V F S) = some true := eqD_self mo_pl.1 (by have := mo_pl (V := V) (F := F) (S := S) |>.2; omega)
theorem rows_pl {n : Nat} {V : Nat → Rat} {F S : Nat → Nat → Rat} : (PV.lst (rl n fun k => mo (V k) (F k) (S k))).pl = true ∧ (PV.lst (rl n fun k => mo (V k) (F k) (S k))).dp ≤ 4 := by
  constructor
  · show PV.pls _ = true
    rw [pls_all]
    intro x hx
    obtain ⟨k, _, rfl⟩ := List.mem_map.mp hx
    exact mo_pl.1
  · show PV.dps _ + 1 ≤ 4
    have : PV.dps (rl n fun k => mo (V k) (F k) (S k)) ≤ 3 := by
      rw [dps_le]
      intro x hx
      obtain ⟨k, _, rfl⟩ := List.mem_map.mp hx
      exact mo_pl.2
    omega
theorem eq_rows {n : Nat} {V : Nat → Rat} {F S : Nat → Nat → Rat} : eqD (.lst (rl n fun k => mo (V k) (F k) (S k))) (.lst (rl n fun k => mo (V k) (F k) (S k))) = some true := eqD_self rows_pl.1 (by have := rows_pl (n := n) (V := V) (F := F) (S := S) |>.2; omega)

/-! ### what the moments are -/
theorem box_bz {l h w : Nat → Rat} {a : Nat} (hw : ∀ k < 3, wd l h k = w k) (hl : ∀ k < 3, bz (l k) ≤ a) (hh : ∀ k < 3, bz (h k) ≤ a + 4) (bw : ∀ k < 3, bz (w k) ≤ 3) :
    bz (bV l h) ≤ 9 ∧ (∀ k < 3, bz (bF l h k) ≤ 2 * a + 16) ∧ ∀ k < 6, bz (bS l h k) ≤ 4 * a + 34 := by
  have v : bz (bV l h) ≤ 9 := by
    unfold bV
    rw [hw 0 (by omega), hw 1 (by omega), hw 2 (by omega)]
    have := bw 0 (by omega)
    have := bw 1 (by omega)
    have := bw 2 (by omega)
    have := bz_mul (w 1) (w 2)
    have := bz_mul (w 0) (w 1 * w 2)
    omega
  have m : ∀ k < 3, bz (md l h k) ≤ 2 * a + 7 := fun k hk => by
    have := bz_add (l k) (h k)
    have := bz_mul (l k + h k) (1 / 2)
    rw [bz_half] at this
    have := hl k hk
    have := hh k hk
    show bz ((l k + h k) * (1 / 2)) ≤ _
    omega
  refine ⟨v, fun k hk => ?_, fun k hk => ?_⟩
  · have := bz_mul (bV l h) (md l h k)
    have := m k hk
    show bz (bV l h * md l h k) ≤ _
    omega
  · have ea := pa_lt hk
    have eb := pb_lt hk
    have := bz_mul (bV l h) (bQ l h k)
    have q : bz (bQ l h k) ≤ 2 * (2 * a + 7) + 11 := by
      have := m _ ea
      have := m _ eb
      have := bz_mul (md l h (pa k)) (md l h (pb k))
      have := bw _ ea
      have := bz_mul (w (pa k)) (w (pa k))
      have := bz_mul (w (pa k) * w (pa k)) (1 / 12)
      rw [bz_12] at this
      have := bz_add (md l h (pa k) * md l h (pb k)) (w (pa k) * w (pa k) * (1 / 12))
      unfold bQ
      rw [hw _ ea]
      split <;> omega
    show bz (bV l h * bQ l h k) ≤ _
    omega
theorem wd_sh {l h s : Nat → Rat} {k : Nat} : wd (fun k => l k + s k) (fun k => h k + s k) k = wd l h k := by
  unfold wd; grind
theorem md_sh {l h s : Nat → Rat} {k : Nat} : md (fun k => l k + s k) (fun k => h k + s k) k = md l h k + s k := by
  unfold md; grind
theorem bV_sh {l h s : Nat → Rat} : bV (fun k => l k + s k) (fun k => h k + s k) = bV l h := by
  unfold bV; rw [wd_sh, wd_sh, wd_sh]
theorem bF_sh {l h s : Nat → Rat} {k : Nat} : bF (fun k => l k + s k) (fun k => h k + s k) k = shF (bV l h) (bF l h) s k := by
  unfold bF shF
  rw [bV_sh, md_sh]
  show bV l h * (md l h k + s k) = bV l h * md l h k + bV l h * s k
  grind
theorem bS_sh {l h s : Nat → Rat} {k : Nat} : bS (fun k => l k + s k) (fun k => h k + s k) k = shS (bV l h) (bF l h) (bS l h) s k := by
  unfold bS shS shF bQ
  rw [bV_sh, md_sh, md_sh, wd_sh]
  dsimp only
  have fe : ∀ k, bF l h k = bV l h * md l h k := fun _ => rfl
  rw [fe, fe]
  by_cases e : pa k = pb k
  · rw [if_pos e, if_pos e, ← e]
    grind
  · rw [if_neg e, if_neg e]
    grind
theorem sh_sum {V : Nat → Rat} {F S : Nat → Nat → Rat} {s : Nat → Rat} {k : Nat} : ∀ n, shS (sm n V) (fun i => sm n fun j => F j i) (fun i => sm n fun j => S j i) s k = sm n fun j => shS (V j) (F j) (S j) s k
  | 0 => by
    unfold shS shF
    show (0 : Rat) + (s (pa k) * 0 + s (pb k) * (0 + 0 * s (pa k))) = 0
    grind
  | n + 1 => by
    have := sh_sum (V := V) (F := F) (S := S) (s := s) (k := k) n
    unfold shS shF at *
    show (sm n (fun j => S j k) + S n k) + (s (pa k) * (sm n (fun j => F j (pb k)) + F n (pb k)) + s (pb k) * ((sm n (fun j => F j (pa k)) + F n (pa k)) + (sm n V + V n) * s (pa k))) = sm n (fun j => S j k + (s (pa k) * F j (pb k) + s (pb k) * (F j (pa k) + V j * s (pa k)))) + (S n k + (s (pa k) * F n (pb k) + s (pb k) * (F n (pa k) + V n * s (pa k))))
    rw [← this]
    grind
theorem turn_eq {S : Nat → Rat} {d : Nat → Int} : turn S d 6 = lturn S d := by
  unfold turn lturn sqd
  simp only [sm, qd, pa, pb]
  simp
  grind
theorem sm_pos {V : Nat → Rat} : ∀ n, 0 < n → (∀ k < n, 0 < V k) → 0 < sm n V
  | 0, h, _ => by omega
  | 1, _, h => by
    show 0 < (0 : Rat) + V 0
    have := h 0 (by omega)
    grind
  | n + 2, _, h => by
    have := sm_pos (n + 1) (by omega) fun k hk => h k (by omega)
    have := h (n + 1) (by omega)
    show 0 < sm (n + 1) V + V (n + 1)
    grind
theorem bV_pos {l h : Nat → Rat} (hw : ∀ k < 3, 0 < wd l h k) : 0 < bV l h := by
  unfold bV
  exact Rat.mul_pos (hw 0 (by omega)) (Rat.mul_pos (hw 1 (by omega)) (hw 2 (by omega)))

theorem wd_add (a b : Rat) : (a + b) - a = b := by grind
theorem wd_back (h l p : Rat) : (h - p) - (l - p) = h - l := by grind
theorem mul_div_me {v m : Rat} (h : v ≠ 0) : v * m / v = m := by grind
theorem neg_sum (v : Rat) : (0 + v) + ((-1 : Int) : Rat) * v = 0 := by
  have : ((-1 : Int) : Rat) = -1 := rfl
  rw [this]
  grind
structure Sp (C : Cl) (X : Str → List PV → Str → Bool) : Prop where
  cell : ∀ (ns : List Int) (k : Nat), C "_law_cell" [.lst (ns.map .int), .int (k : Nat)] = sh (.int ((ns.getD k 0).natAbs : Int))
  corners : ∀ cell : Nat, ∃ l w : Nat → Rat, (∀ k, bz (l k) ≤ 3 ∧ bz (w k) ≤ 3 ∧ 0 < w k) ∧ C "_law_corners" [.int cell] = sh (.tup [.lst (lf 3 l), .lst (lf 3 fun k => l k + w k)])
  point : ∀ cell : Nat, ∃ p : Nat → Rat, (∀ k, bz (p k) ≤ 4) ∧ C "_law_point" [.int cell] = sh (.tup (lf 3 p))
  dir : ∀ cell : Nat, ∃ d : Nat → Int, (∀ k < 3, (d k).natAbs ≤ 6) ∧ sqd d ≠ 0 ∧ C "_law_direction" [.int cell, .int 5] = sh (dirV d)
  moved : ∀ L Y l s, vec L l → vec Y s → (∀ k < 3, bz (l k) + bz (s k) ≤ 4900) → C "_law_moved" [L, Y] = sh (.tup (lf 3 fun k => l k + s k))
  back : ∀ L Y l s, vec L l → vec Y s → (∀ k < 3, bz (l k) + bz (s k) ≤ 4900) → C "_law_back" [L, Y] = sh (.tup (lf 3 fun k => l k - s k))
  mid : S_mid C
  box : ∀ L H l h, vec L l → vec H h → (∀ k < 3, bz (l k) ≤ 100) → (∀ k < 3, bz (h k) ≤ 100) → C "_law_box_moments" [L, H] = sh (mo (bV l h) (bF l h) (bS l h))
  shifted : ∀ V F S Y s, vec Y s → bz V ≤ 600 → (∀ k < 3, bz (F k) ≤ 600) → (∀ k < 6, bz (S k) ≤ 600) → (∀ k < 3, bz (s k) ≤ 100) → C "shifted_moments" [mo V F S, Y] = sh (mo V (shF V F s) (shS V F S s))
  nom : C "_law_no_moments" [] = sh (mo 0 (fun _ => 0) fun _ => 0)
  ladd : S_added C "_law_added"
  joined : ∀ n V F S b, n ≤ 4 → b ≤ 600 → (∀ k < n, bz (V k) ≤ b) → (∀ k < n, ∀ i < 3, bz (F k i) ≤ b) → (∀ k < n, ∀ i < 6, bz (S k i) ≤ b) → C "joined_moments" [.lst (rl n fun k => mo (V k) (F k) (S k))] = sh (mos n V F S)
  centre : ∀ V F S, V ≠ 0 → (∀ k < 3, bz (F k) + bz V ≤ 4900) → C "centre_of" [mo V F S] = sh (.tup (lf 3 fun k => F k / V))
  lcentre : ∀ V F S, V ≠ 0 → (∀ k < 3, bz (F k) + bz V ≤ 4900) → C "_law_centre" [mo V F S] = sh (.tup (lf 3 fun k => F k / V))
  weighed : ∀ V F S f, bz f + bz V ≤ 4900 → (∀ k < 3, bz f + bz (F k) ≤ 4900) → (∀ k < 6, bz f + bz (S k) ≤ 4900) → C "weighed" [mo V F S, fr f] = sh (mo (f * V) (fun k => f * F k) fun k => f * S k)
  add : S_add C "_law_plus"
  mul : S_mul C "_law_times"
  about : ∀ V F S p, bz V ≤ 600 → (∀ k < 3, bz (F k) ≤ 600) → (∀ k < 6, bz (S k) ≤ 600) → (∀ k < 3, bz (p k) ≤ 100) → C "about" [mo V F S, .tup (lf 3 p)] = sh (.tup (lf 6 (shS V F S fun k => -p k)))
  turning : ∀ V F S p d, bz V ≤ 600 → (∀ k < 3, bz (F k) ≤ 600) → (∀ k < 6, bz (S k) ≤ 600) → (∀ k < 3, bz (p k) ≤ 100) → (∀ k < 6, bz (shS V F S (fun k => -p k) k) ≤ 435) → (∀ k < 3, (d k).natAbs ≤ 6) → sqd d ≠ 0 →
    C "turning" [mo V F S, .tup (lf 3 p), dirV d] = sh (fr (turn (shS V F S fun k => -p k) d 6 / (sqd d : Int)))
  lturning : ∀ S d, (∀ k < 6, bz (S k) ≤ 435) → (∀ k < 3, (d k).natAbs ≤ 6) → sqd d ≠ 0 → C "_law_turning" [.lst (lf 6 S), dirV d] = sh (fr (lturn S d / (sqd d : Int)))
  nought : ∀ F S, X "centre_of" [mo 0 F S] "Nought" = true

theorem law_ok {C : Cl} {X : Str → List PV → Str → Bool} (Q : Sp C X) (ns : List Int) : mm_law C X (.lst (ns.map .int)) = sh (.bl true) := by
  have cell0 : ∀ k : Nat, C "_law_cell" [.lst (ns.map .int), .int (k : Nat)] = sh (.int ((ns.getD k 0).natAbs : Int)) := Q.cell ns
  have cell4 : C "_law_cell" [.lst (ns.map .int), .int 4] = _ := cell0 4
  have cell5 : C "_law_cell" [.lst (ns.map .int), .int 5] = _ := cell0 5
  have cell6 : C "_law_cell" [.lst (ns.map .int), .int 6] = _ := cell0 6
  have cell7 : C "_law_cell" [.lst (ns.map .int), .int 7] = _ := cell0 7
  have cell8 : C "_law_cell" [.lst (ns.map .int), .int 8] = _ := cell0 8
  have hbox : ∀ k : Nat, ∃ p : (Nat → Rat) × (Nat → Rat), (∀ i, bz (p.1 i) ≤ 3 ∧ bz (p.2 i) ≤ 3 ∧ 0 < p.2 i) ∧ C "_law_corners" [.int ((ns.getD k 0).natAbs : Int)] = sh (.tup [.lst (lf 3 p.1), .lst (lf 3 fun i => p.1 i + p.2 i)]) := fun k => by
    obtain ⟨l, w, h, e⟩ := Q.corners (ns.getD k 0).natAbs
    exact ⟨(l, w), h, e⟩
  obtain ⟨B, hB⟩ := Classical.axiomOfChoice hbox
  generalize hlo : (fun k => (B k).1) = lo
  generalize hwi : (fun k => (B k).2) = wi
  have bl : ∀ k i, bz (lo k i) ≤ 3 := fun k i => by rw [← hlo]; exact ((hB k).1 i).1
  have bw : ∀ k i, bz (wi k i) ≤ 3 := fun k i => by rw [← hwi]; exact ((hB k).1 i).2.1
  have pw : ∀ k i, 0 < wi k i := fun k i => by rw [← hwi]; exact ((hB k).1 i).2.2
  have cor : ∀ k : Nat, C "_law_corners" [.int ((ns.getD k 0).natAbs : Int)] = sh (.tup [.lst (lf 3 (lo k)), .lst (lf 3 fun i => lo k i + wi k i)]) := fun k => by rw [← hlo, ← hwi]; exact (hB k).2
  clear hlo hwi hB hbox
  obtain ⟨s, bs, hs⟩ := Q.point (ns.getD 4 0).natAbs
  obtain ⟨g, bg, hg⟩ := Q.point (ns.getD 5 0).natAbs
  obtain ⟨p, bp, hp⟩ := Q.point (ns.getD 6 0).natAbs
  obtain ⟨d, bd, d0, hd⟩ := Q.dir (ns.getD 8 0).natAbs
  obtain ⟨n, hn⟩ : ∃ n : Nat, (n : Int) = 1 + ((ns.getD 7 0).natAbs : Int) % 4 := ⟨(1 + ((ns.getD 7 0).natAbs : Int) % 4).toNat, by omega⟩
  have hn4 : n ≤ 4 := by omega
  have hn1 : 1 ≤ n := by omega
  generalize hhi : (fun k i => lo k i + wi k i) = hi
  have ehi : ∀ k, (fun i => lo k i + wi k i) = hi k := fun k => by rw [← hhi]
  have bh : ∀ k i, bz (hi k i) ≤ 7 := fun k i => by
    rw [← hhi]
    have := bz_add (lo k i) (wi k i)
    have := bl k i
    have := bw k i
    show bz (lo k i + wi k i) ≤ 7
    omega
  have hwd : ∀ k i, wd (lo k) (hi k) i = wi k i := fun k i => by rw [← hhi]; exact wd_add _ _
  simp only [ehi] at cor
  have bb : ∀ k, bz (bV (lo k) (hi k)) ≤ 9 ∧ (∀ i < 3, bz (bF (lo k) (hi k) i) ≤ 2 * 3 + 16) ∧ ∀ i < 6, bz (bS (lo k) (hi k) i) ≤ 4 * 3 + 34 := fun k => box_bz (fun i _ => hwd k i) (fun i _ => bl k i) (fun i _ => bh k i) fun i _ => bw k i
  have vpos : ∀ k, 0 < bV (lo k) (hi k) := fun k => bV_pos fun i _ => by rw [hwd]; exact pw k i
  generalize hV : (fun k => bV (lo k) (hi k)) = V
  generalize hF : (fun k => bF (lo k) (hi k)) = F
  generalize hS : (fun k => bS (lo k) (hi k)) = S
  have eV : ∀ k, bV (lo k) (hi k) = V k := fun k => by rw [← hV]
  have eF : ∀ k, bF (lo k) (hi k) = F k := fun k => by rw [← hF]
  have eS : ∀ k, bS (lo k) (hi k) = S k := fun k => by rw [← hS]
  have box : ∀ k, C "_law_box_moments" [.lst (lf 3 (lo k)), .lst (lf 3 (hi k))] = sh (mo (V k) (F k) (S k)) := fun k => by
    rw [Q.box _ _ (lo k) (hi k) vec_l vec_l (fun i _ => by have := bl k i; omega) (fun i _ => by have := bh k i; omega), eV, eF, eS]
  have bV' : ∀ k < n, bz (V k) ≤ 9 := fun k _ => by rw [← eV]; exact (bb k).1
  have bF' : ∀ k < n, ∀ i < 3, bz (F k i) ≤ 22 := fun k _ i hi => by rw [← eF]; exact (bb k).2.1 i hi
  have bS' : ∀ k < n, ∀ i < 6, bz (S k i) ≤ 46 := fun k _ i hi => by rw [← eS]; exact (bb k).2.2 i hi
  unfold mm_law
  refine jn_at (.lst (rl n fun k => .tup [.lst (lf 3 (lo k)), .lst (lf 3 (hi k))]), rl n fun k => mo (V k) (F k) (S k), .tup (lf 3 s)) ?_ ?_
  · intro j
    simp only [cell4, cell7, cl1_sh, sh_bind, ob_some, List.append_nil, int_int]
    rw [op2_mods (by omega), sh_bind, op2_add, sh_bind, ← hn, rng1_ok (by omega), ob_some, ints0, compM_rl n (g := fun k => .tup [.lst (lf 3 (lo k)), .lst (lf 3 (hi k))]) (fun k hk => by
      simp only [cell0, cl1_sh, sh_bind, ob_some, List.append_nil, cor])]
    simp only [ob_some, ownO_own]
    rw [seq_l (by omega), ob_some, compM_rl n (g := fun k => mo (V k) (F k) (S k)) (fun k hk => by
      simp only [ix_t0, ix_t1, cl1_sh, sh_bind, ob_some, om_some, List.append_nil, box])]
    simp only [ob_some, ownO_own, hs, cl1_sh, sh_bind]
  show jn _ _ = _
  have ix0b : ix (.lst (rl n fun k => .tup [.lst (lf 3 (lo k)), .lst (lf 3 (hi k))])) (.int 0) = sh (.tup [.lst (lf 3 (lo 0)), .lst (lf 3 (hi 0))]) := ix_rlL (i := 0) (by omega)
  have ix0r : ix (.lst (rl n fun k => mo (V k) (F k) (S k))) (.int 0) = sh (mo (V 0) (F 0) (S 0)) := ix_rlL (i := 0) (by omega)
  refine jn_at (mo (V 0) (shF (V 0) (F 0) s) (shS (V 0) (F 0) (S 0) s), mo 0 (fun _ => 0) (fun _ => 0), .lst (lf 3 (lo 0)), .lst (lf 3 (hi 0))) ?_ ?_
  · intro j
    dsimp only
    simp only [ix0b, ix0r, sh_bind, unT2, ob_some, gd0, gd1]
    rw [Q.moved _ _ (lo 0) s vec_l vec_t (fun k _ => by have := bl 0 k; have := bs k; omega), Q.moved _ _ (hi 0) s vec_l vec_t (fun k _ => by have := bh 0 k; have := bs k; omega)]
    simp only [cl1_sh, sh_bind, ob_some, om_some, List.append_nil]
    rw [Q.box _ _ (fun k => lo 0 k + s k) (fun k => hi 0 k + s k) vec_t vec_t (fun k _ => by have := bz_add (lo 0 k) (s k); have := bl 0 k; have := bs k; show bz (lo 0 k + s k) ≤ _; omega) (fun k _ => by have := bz_add (hi 0 k) (s k); have := bh 0 k; have := bs k; show bz (hi 0 k + s k) ≤ _; omega)]
    rw [Q.shifted _ _ _ _ s vec_t (by have := bV' 0 (by omega); omega) (fun k hk => by have := bF' 0 (by omega) k hk; omega) (fun k hk => by have := bS' 0 (by omega) k hk; omega) (fun k _ => by have := bs k; omega)]
    rw [show mo (bV (fun k => lo 0 k + s k) fun k => hi 0 k + s k) (bF (fun k => lo 0 k + s k) fun k => hi 0 k + s k) (bS (fun k => lo 0 k + s k) fun k => hi 0 k + s k) = mo (V 0) (shF (V 0) (F 0) s) (shS (V 0) (F 0) (S 0) s) by
      rw [bV_sh, eV]
      congr 1
      · funext k; rw [bF_sh, eV, eF]
      · funext k; rw [bS_sh, eV, eF, eS]]
    simp only [cl1_sh, sh_bind, cmp_ne, eq_mo, om_some, Bool.not_true, ob_some, Bool.false_eq_true, if_false, Q.nom]
  show jn _ _ = _
  refine jn_at (.lst (rl n fun k => mo (V k) (F k) (S k)), mos n V F S) ?_ ?_
  · intro j
    dsimp only
    rw [seq_l (by omega), ob_some, forC_rl _ (fun k => mos k V F S) n (by rfl)]
    intro k hk kn kb
    rw [added_step Q.ladd hn4 (b := 46) (by omega) (fun k hk => by have := bV' k hk; omega) (fun k hk i hi => by have := bF' k hk i hi; omega) (fun k hk i hi => bS' k hk i hi) hk, cl1_sh, sh_bind]
  have DVp : 0 < sm n V := sm_pos n (by omega) fun k _ => by rw [← eV]; exact vpos k
  have DVn : sm n V ≠ 0 := by intro e; rw [e] at DVp; exact absurd DVp (by decide +kernel)
  have bDV : bz (sm n V) ≤ 41 := by
    have := bz_sm n bV'
    have : n * (9 + 1) ≤ 4 * 10 := Nat.mul_le_mul hn4 (by omega)
    omega
  have bDF : ∀ i < 3, bz (sm n fun j => F j i) ≤ 93 := fun i hi => by
    have := bz_sm (f := fun j => F j i) n fun j hj => bF' j hj i hi
    have : n * (22 + 1) ≤ 4 * 23 := Nat.mul_le_mul hn4 (by omega)
    omega
  have bDS : ∀ i < 6, bz (sm n fun j => S j i) ≤ 189 := fun i hi => by
    have := bz_sm (f := fun j => S j i) n fun j hj => bS' j hj i hi
    have : n * (46 + 1) ≤ 4 * 47 := Nat.mul_le_mul hn4 (by omega)
    omega
  -- the boxes seen from the point
  generalize hT : (fun k => bS (fun i => lo k i - p i) fun i => hi k i - p i) = T
  have eT : ∀ k, bS (fun i => lo k i - p i) (fun i => hi k i - p i) = T k := fun k => by rw [← hT]
  have bT : ∀ k, ∀ i < 6, bz (T k i) ≤ 66 := fun k i hi' => by
    rw [← eT]
    refine (box_bz (a := 8) (w := wi k) (fun j _ => ?_) (fun j _ => ?_) (fun j _ => ?_) (fun j _ => bw k j)).2.2 i hi'
    · rw [← hwd k j]; exact wd_back _ _ _
    · have := bz_sub (lo k j) (p j); have := bl k j; have := bp j; show bz (lo k j - p j) ≤ _; omega
    · have := bz_sub (hi k j) (p j); have := bh k j; have := bp j; show bz (hi k j - p j) ≤ _; omega
  have bDT : ∀ m ≤ 4, ∀ i < 6, bz (sm m fun j => T j i) ≤ 269 := fun m hm i hi => by
    have := bz_sm (f := fun j => T j i) m fun j _ => bT j i hi
    have : m * (66 + 1) ≤ 4 * 67 := Nat.mul_le_mul hm (by omega)
    omega
  have seen : ∀ k, shS (sm n V) (fun i => sm n fun j => F j i) (fun i => sm n fun j => S j i) (fun i => -p i) k = sm n fun j => T j k := fun k => by
    rw [sh_sum]
    refine sm_congr n fun j _ => ?_
    rw [← eT, ← eV, ← eF, ← eS, ← bS_sh]
    congr 1 <;> (funext i; exact (Rat.sub_eq_add_neg _ _).symm)
  have emos : mos n V F S = mo (sm n V) (fun i => sm n fun j => F j i) (fun i => sm n fun j => S j i) := rfl
  have hjoin := Q.joined n V F S 46 hn4 (by omega) (fun k hk => by have := bV' k hk; omega) (fun k hk i hi => by have := bF' k hk i hi; omega) (fun k hk i hi => bS' k hk i hi)
  have hjoin0 : C "joined_moments" [.lst []] = sh (mo 0 (fun _ => 0) fun _ => 0) := Q.joined 0 V F S 46 (by omega) (by omega) (fun k hk => by omega) (fun k hk => by omega) (fun k hk => by omega)
  rw [emos] at hjoin ⊢
  generalize hDV : sm n V = DV at *
  generalize hDF : (fun i => sm n fun j => F j i) = DF at *
  generalize hDS : (fun i => sm n fun j => S j i) = DS at *
  replace bDF : ∀ i < 3, bz (DF i) ≤ 93 := fun i hi => by rw [← hDF]; exact bDF i hi
  replace bDS : ∀ i < 6, bz (DS i) ≤ 189 := fun i hi => by rw [← hDS]; exact bDS i hi
  show jn _ _ = _
  refine jn_at (rl n fun k => mo (V k) (F k) (S k)) ?_ ?_
  · intro j
    dsimp only
    have c1 : (fun k => F 0 k / V 0) = md (lo 0) (hi 0) := by
      funext k
      have := vpos 0
      rw [← eF]
      show bV (lo 0) (hi 0) * md (lo 0) (hi 0) k / V 0 = _
      rw [eV]
      rw [eV] at this
      exact mul_div_me (by intro e; rw [e] at this; exact absurd this (by decide +kernel))
    simp only [list_lst, ownO_own, ob_some, hjoin, hjoin0, cl1_sh, sh_bind, cmp_ne, eq_mo, eq_rows, om_some, Bool.not_true, Bool.false_eq_true, if_false, Q.nom, ix0r, List.append_nil]
    rw [Q.centre _ _ _ (by intro e; have := vpos 0; rw [eV, e] at this; exact absurd this (by decide +kernel)) (fun k hk => by have := bF' 0 (by omega) k hk; have := bV' 0 (by omega); omega)]
    rw [comp3 (fun k => fr (md (lo 0) (hi 0) k)) (fun k hk => by
      have := bl 0 k
      have := bh 0 k
      rw [ix_rlL hk, ix_rlL hk]
      simp only [sh_bind, ob_some, om_some, List.append_nil]
      rw [Q.mid _ _ (by omega)]
      rfl)]
    rw [c1]
    simp only [cl1_sh, sh_bind, ob_some, tuple_lst, cmp_ne, eq_tl, om_some, Bool.not_true, Bool.false_eq_true, if_false]
  show jn _ _ = _
  have b41 : bz DV ≤ 600 := by omega
  have b93 : ∀ k < 3, bz (DF k) ≤ 600 := fun k hk => by have := bDF k hk; omega
  have b189 : ∀ k < 6, bz (DS k) ≤ 600 := fun k hk => by have := bDS k hk; omega
  refine jn_at (fr (g 0), .tup [fr (g 0 * DV), .tup (lf 3 fun k => g 0 * DF k)]) ?_ ?_
  · intro j
    dsimp only
    have g0 := bg 0
    rw [Q.centre _ _ _ DVn (fun k hk => by have := bDF k hk; omega), Q.lcentre _ _ _ DVn (fun k hk => by have := bDF k hk; omega)]
    simp only [cl1_sh, sh_bind, cmp_ne, eq_tl, om_some, Bool.not_true, ob_some, Bool.false_eq_true, if_false, cell5, List.append_nil, hg]
    rw [show ix (.tup (lf 3 g)) (.int 0) = sh (fr (g 0)) from ix_rlT (i := 0) (by omega)]
    simp only [sh_bind, mo0, mo1, ob_some, om_some, List.append_nil]
    rw [Q.mul _ _ (by omega), comp_t (g := fun k => fr (g 0 * DF k)) (by omega) (fun k hk => by rw [Q.mul _ _ (by have := bDF k hk; omega)]; rfl)]
    rfl
  show jn _ _ = _
  refine jn_at (.tup (lf 3 p), lf 6 fun _ => 0) ?_ ?_
  · intro j
    dsimp only
    have g0 := bg 0
    rw [Q.weighed _ _ _ _ (by omega) (fun k hk => by have := bDF k hk; omega) (fun k hk => by have := bDS k hk; omega)]
    simp only [cl1_sh, sh_bind, mo2, ob_some, om_some]
    rw [comp_t (g := fun k => fr (g 0 * DS k)) (by omega) (fun k hk => by rw [Q.mul _ _ (by have := bDS k hk; omega)]; rfl)]
    simp only [ob_some, tuple_lst, sh_bind]
    rw [show op2 .Add (.tup [fr (g 0 * DV), .tup (lf 3 fun k => g 0 * DF k)]) (.tup [.tup (lf 6 fun k => g 0 * DS k)]) = sh (mo (g 0 * DV) (fun k => g 0 * DF k) (fun k => g 0 * DS k)) from rfl]
    simp only [cl1_sh, sh_bind, cmp_ne, eq_mo, om_some, Bool.not_true, ob_some, Bool.false_eq_true, if_false, cell6, hp]
    rw [comp6 (fun _ => .tup [.int 0, .int 1]) (fun k hk => rfl), ownO_own]
    simp only [List.append_nil, hp, cl1_sh, sh_bind, ob_some]
    rfl
  show jn _ _ = _
  refine jn_at (lf 6 fun i => sm n fun j => T j i) ?_ ?_
  · intro j
    dsimp only
    rw [seq_l (by omega), ob_some, forC_rl _ (fun k => lf 6 fun i => sm k fun j => T j i) n (by rfl)]
    intro k hk kn kb
    simp only [ix_t0, ix_t1, sh_bind, ob_some, om_some, List.append_nil]
    rw [Q.back _ _ (lo k) p vec_l vec_t (fun i _ => by have := bl k i; have := bp i; omega), Q.back _ _ (hi k) p vec_l vec_t (fun i _ => by have := bh k i; have := bp i; omega)]
    simp only [cl1_sh, sh_bind, ob_some, om_some, List.append_nil]
    rw [Q.box _ _ (fun i => lo k i - p i) (fun i => hi k i - p i) vec_t vec_t (fun i _ => by have := bz_sub (lo k i) (p i); have := bl k i; have := bp i; show bz (lo k i - p i) ≤ _; omega) (fun i _ => by have := bz_sub (hi k i) (p i); have := bh k i; have := bp i; show bz (hi k i - p i) ≤ _; omega), cl1_sh, sh_bind]
    simp only [mo2, sh_bind]
    rw [comp6 (fun i => fr (sm (k + 1) fun j => T j i)) (fun i hi' => by
      rw [ix_rlL hi', ix_rlT hi']
      simp only [sh_bind, ob_some, om_some, List.append_nil, eT]
      rw [Q.add _ _ (by have := bT k i hi'; have := bDT k (by omega) i hi'; omega)]
      rfl), ownO_own, ob_some]
  show Option.bind _ _ = _
  dsimp only
  have hseen : (shS DV DF DS fun i => -p i) = fun i => sm n fun j => T j i := funext seen
  rw [Q.about _ _ _ p b41 b93 b189 (fun k _ => by have := bp k; omega), hseen]
  simp only [cl1_sh, sh_bind, tuple_lst, cmp_ne, eq_tl, om_some, Bool.not_true, ob_some, Bool.false_eq_true, if_false, cell8, List.append_nil, hd]
  rw [Q.turning _ _ _ p d b41 b93 b189 (fun k _ => by have := bp k; omega) (fun k hk => by have := bDT n hn4 k hk; have := congrFun hseen k; rw [this]; omega) bd d0, hseen, turn_eq, Q.lturning _ d (fun k hk => by have := bDT n hn4 k hk; show bz (sm n fun j => T j k) ≤ _; omega) bd d0]
  simp only [cl1_sh, sh_bind]
  rw [show eqD (fr (lturn (fun i => sm n fun j => T j i) d / (sqd d : Int))) (fr (lturn (fun i => sm n fun j => T j i) d / (sqd d : Int))) = some true by rw [eqD_fr]; simp]
  simp only [cl1_sh, sh_bind, om_some, Bool.not_true, ob_some, Bool.false_eq_true, if_false]
  have hw : C "weighed" [mo DV DF DS, .tup [.int (-1), .int 1]] = sh (mo (((-1 : Int) : Rat) * DV) (fun k => ((-1 : Int) : Rat) * DF k) fun k => ((-1 : Int) : Rat) * DS k) := by
    have b1 : bz ((-1 : Int) : Rat) ≤ 2 := bz_int (by decide) (by decide)
    exact Q.weighed DV DF DS ((-1 : Int) : Rat) (by omega) (fun k hk => by have := bDF k hk; omega) (fun k hk => by have := bDS k hk; omega)
  simp only [hw, cl1_sh, sh_bind, ob_some, om_some, List.append_nil]
  obtain ⟨V2, F2, S2, hj, hV2⟩ : ∃ V2 F2 S2, C "joined_moments" [.lst [mo DV DF DS, mo (((-1 : Int) : Rat) * DV) (fun k => ((-1 : Int) : Rat) * DF k) fun k => ((-1 : Int) : Rat) * DS k]] = sh (mo V2 F2 S2) ∧ V2 = 0 := by
    have b1 : bz ((-1 : Int) : Rat) ≤ 2 := bz_int (by decide) (by decide)
    have m1 := bz_mul ((-1 : Int) : Rat) DV
    have e := Q.joined 2 (fun k => match k with | 0 => DV | _ => ((-1 : Int) : Rat) * DV) (fun k => match k with | 0 => DF | _ => fun i => ((-1 : Int) : Rat) * DF i) (fun k => match k with | 0 => DS | _ => fun i => ((-1 : Int) : Rat) * DS i) 600 (by omega) (by omega)
      (fun k _ => by
        match k with
        | 0 => show bz DV ≤ 600; omega
        | k + 1 => show bz (((-1 : Int) : Rat) * DV) ≤ 600; omega)
      (fun k _ i hi => by
        have := bDF i hi
        have := bz_mul ((-1 : Int) : Rat) (DF i)
        match k with
        | 0 => show bz (DF i) ≤ 600; omega
        | k + 1 => show bz (((-1 : Int) : Rat) * DF i) ≤ 600; omega)
      (fun k _ i hi => by
        have := bDS i hi
        have := bz_mul ((-1 : Int) : Rat) (DS i)
        match k with
        | 0 => show bz (DS i) ≤ 600; omega
        | k + 1 => show bz (((-1 : Int) : Rat) * DS i) ≤ 600; omega)
    refine ⟨_, _, _, e, ?_⟩
    exact neg_sum DV
  subst hV2
  rw [hj]
  simp only [cl1_sh, sh_bind, Q.nought, if_true]
  rfl
end K77

namespace K77
open PySem L2 Pv
theorem a_common (d : Nat) : S_common (run prog (d + 1)) := fun a b h => (r_common d _ _).trans (s_common _ a b h)
theorem a_fraction (d : Nat) : S_fraction (run prog (d + 2)) := fun a b h0 h => (r_fraction (d + 1) _ _).trans (s_fraction (a_common d) a b h0 h)
theorem a_lfraction (d : Nat) : S_lfraction (run prog (d + 1)) := fun a b h0 h => (r__law_fraction d _ _).trans (s_lfraction _ a b h0 h)
theorem a_plus (d : Nat) : S_add (run prog (d + 3)) "plus" := fun x y h => (r_plus (d + 2) _ _).trans (s_plus (a_fraction d) x y h)
theorem a_minus (d : Nat) : S_sub (run prog (d + 3)) "minus" := fun x y h => (r_minus (d + 2) _ _).trans (s_minus (a_fraction d) x y h)
theorem a_times (d : Nat) : S_mul (run prog (d + 3)) "times" := fun x y h => (r_times (d + 2) _ _).trans (s_times (a_fraction d) x y h)
theorem a_over (d : Nat) : S_div (run prog (d + 3)) "over" := fun x y h0 h => (r_over (d + 2) _ _).trans (s_over (a_fraction d) x y h0 h)
theorem a_negative (d : Nat) (x : Rat) : run prog (d + 1) "negative" [fr x] = sh (fr (-x)) := (r_negative d _).trans (s_negative _ x)
theorem a_lplus (d : Nat) : S_add (run prog (d + 2)) "_law_plus" := fun x y h => (r__law_plus (d + 1) _ _).trans (s_lplus (a_lfraction d) x y h)
theorem a_lminus (d : Nat) : S_sub (run prog (d + 2)) "_law_minus" := fun x y h => (r__law_minus (d + 1) _ _).trans (s_lminus (a_lfraction d) x y h)
theorem a_ltimes (d : Nat) : S_mul (run prog (d + 2)) "_law_times" := fun x y h => (r__law_times (d + 1) _ _).trans (s_ltimes (a_lfraction d) x y h)
theorem a_lover (d : Nat) : S_div (run prog (d + 2)) "_law_over" := fun x y h0 h => (r__law_over (d + 1) _ _).trans (s_lover (a_lfraction d) x y h0 h)
theorem a_lmid (d : Nat) : S_mid (run prog (d + 3)) := fun x y h => (r__law_middle (d + 2) _ _).trans (s_lmiddle (a_lplus d) (a_ltimes d) x y h)
theorem a_row (d : Nat) (cell size base : Nat) (h1 : size ≤ 1000) (h2 : 0 < base) (h3 : base < 2 ^ 60) : ∃ f : Nat → Int, (∀ i, 0 ≤ f i ∧ f i < base) ∧ run prog (d + 1) "_law_row" [.int cell, .int size, .int base] = some (.lst (rl size fun i => .int (f i)), true) := by
  obtain ⟨f, h, e⟩ := s_lrow (run prog d) cell size base h1 h2 h3
  exact ⟨f, h, (r__law_row d _ _ _).trans e⟩
theorem a_shifted (d : Nat) {V : Rat} {F S s : Nat → Rat} {Y : PV} (hX : vec Y s) (h0 : bz V ≤ 600) (h1 : ∀ k < 3, bz (F k) ≤ 600) (h2 : ∀ k < 6, bz (S k) ≤ 600) (h3 : ∀ k < 3, bz (s k) ≤ 100) :
    run prog (d + 4) "shifted_moments" [mo V F S, Y] = sh (mo V (shF V F s) (shS V F S s)) := (r_shifted_moments (d + 3) _ _).trans (s_shifted (a_plus d) (a_times d) hX h0 h1 h2 h3)
theorem a_about (d : Nat) {V : Rat} {F S p : Nat → Rat} (h0 : bz V ≤ 600) (h1 : ∀ k < 3, bz (F k) ≤ 600) (h2 : ∀ k < 6, bz (S k) ≤ 600) (h3 : ∀ k < 3, bz (p k) ≤ 100) :
    run prog (d + 5) "about" [mo V F S, .tup (lf 3 p)] = sh (.tup (lf 6 (shS V F S fun k => -p k))) := (r_about (d + 4) _ _).trans (s_about (a_negative (d + 3)) (a_shifted d vec_l h0 h1 h2 (fun k hk => by rw [bz_neg]; exact h3 k hk)))
theorem nought (F S : Nat → Rat) : runX prog 18 "Nought" d_centre_of [mo 0 F S] = true := by
  unfold mo
  rfl
theorem sp : Sp (run prog 19) (xtOf prog 18 [("Nought" : Str)]).X where
  cell := fun ns k => (r__law_cell 18 _ _).trans (s_lcellk _ ns k)
  corners := fun cell => by
    obtain ⟨f, hf, e⟩ := a_row 17 cell 7 1000 (by omega) (by omega) (by omega)
    obtain ⟨l, w, h, e⟩ := s_lcorners hf e (a_lfraction 17) (a_lplus 16)
    exact ⟨l, w, h, (r__law_corners 18 _).trans e⟩
  point := fun cell => by
    obtain ⟨f, hf, e⟩ := a_row 17 cell 3 1000 (by omega) (by omega) (by omega)
    obtain ⟨p, h, e⟩ := s_lpoint hf e (a_lfraction 17)
    exact ⟨p, h, (r__law_point 18 _).trans e⟩
  dir := fun cell => by
    obtain ⟨f, hf, e⟩ := a_row 17 cell 3 11 (by omega) (by omega) (by omega)
    obtain ⟨d, h, h0, e⟩ := s_ldirection hf e
    exact ⟨d, h, h0, (r__law_direction 18 _ _).trans e⟩
  moved := fun L Y l s hL hY hb => (r__law_moved 18 _ _).trans (s_lmoved (a_lplus 16) hL hY hb)
  back := fun L Y l s hL hY hb => (r__law_back 18 _ _).trans (s_lback (a_lminus 16) hL hY hb)
  mid := a_lmid 16
  box := fun L H l h hL hH hl hh => (r__law_box_moments 18 _ _).trans (s_lbox ((r__law_pairs 17).trans (s_lpairs _)) (a_lmid 15) (a_lplus 16) (a_lminus 16) (a_ltimes 16) hL hH hl hh)
  shifted := fun V F S Y s hY h0 h1 h2 h3 => a_shifted 15 hY h0 h1 h2 h3
  nom := (r__law_no_moments 18).trans rfl
  ladd := fun V V' F F' S S' h0 h1 h2 => (r__law_added 18 _ _).trans (s_ladded (a_lplus 16) h0 h1 h2)
  joined := fun n V F S b hn hb h0 h1 h2 => (r_joined_moments 18 _).trans (s_joined (fun V V' F F' S S' h0 h1 h2 => (r_added 17 _ _).trans (s_added (a_plus 14) h0 h1 h2)) hn hb h0 h1 h2)
  centre := fun V F S h h1 => (r_centre_of 18 _).trans (s_centre (a_over 15) h h1)
  lcentre := fun V F S h h1 => (r__law_centre 18 _).trans (s_lcentre (a_lover 16) h h1)
  weighed := fun V F S f h0 h1 h2 => (r_weighed 18 _ _).trans (s_weighed (a_times 15) h0 h1 h2)
  add := a_lplus 17
  mul := a_ltimes 17
  about := fun V F S p h0 h1 h2 h3 => a_about 14 h0 h1 h2 h3
  turning := fun V F S p d h0 h1 h2 h3 h4 hd hq => (r_turning 18 _ _ _).trans (s_turning (a_fraction 16) (a_over 15) (a_times 15) (a_minus 15) (a_about 13 h0 h1 h2 h3)
    ((r_dot 17 _ _).trans (s_dot _ (d 0) (d 1) (d 2) (by have := hd 0 (by omega); omega) (by have := hd 1 (by omega); omega) (by have := hd 2 (by omega); omega)))
    ((r_total 17 _).trans (s_total (a_fraction 15) _ _ _ (by have := h4 0 (by omega); have := h4 1 (by omega); have := h4 2 (by omega); omega))) h4 hd hq)
  lturning := fun S d h hd hq => (r__law_turning 18 _ _).trans (s_lturning (a_lover 16) (a_ltimes 16) (a_lplus 16) h hd hq)
  nought := fun F S => nought F S
theorem law_true : ∀ ns : List Int, ns.length ≤ 63 → runT prog 18 [("Nought" : Str)] d_law [.lst (ns.map .int)] = some (.bl true, false) := fun ns _ => by
  unfold runT
  rw [if_pos (by rfl)]
  exact (bt_law (run prog 19) (xtOf prog 18 [("Nought" : Str)]).X (.lst (ns.map .int))).trans (law_ok sp ns)
end K77


open PySem PySem.W PyProof.Rows
set_option maxRecDepth 100000 in
set_option maxHeartbeats 0 in
theorem PySem.Challenge.cw_trueshop_k77_moments_moved_and_joined_holds : PySem.Challenge.rw_trueshop_k77_moments_moved_and_joined.Holds := by
  w_on; o_law; k_head; (case hw => w_witness2)
  k_fill
  refine K77.walk (l := PySem.Challenge.rw_trueshop_k77_moments_moved_and_joined) K77.law_true rfl rfl (fun w h Y => PySem.W.kIn_of Y) ?F
  case F =>
    intro w mg fa h KX G hmg
    refine' K77.fin hmg (K77.pg_ok (w := w) KX G ?a0 ?l0 ?c0 ?k0 ?a1 ?l1 ?c1 ?k1 ?t1 ?u1 ?a2 ?l2 ?c2 ?k2 ?a3 ?l3 ?c3 ?k3 ?a4 ?l4 ?c4 ?k4 ?a5 ?l5 ?c5 ?k5 ?a6 ?l6 ?c6 ?k6 ?a7 ?l7 ?c7 ?k7 ?a8 ?l8 ?c8 ?k8 ?a9 ?l9 ?c9 ?k9 ?a10 ?l10 ?c10 ?k10 ?a11 ?l11 ?c11 ?k11 ?a12 ?l12 ?c12 ?k12 ?a13 ?l13 ?c13 ?k13 ?a14 ?l14 ?c14 ?k14 ?a15 ?l15 ?c15 ?k15 ?a16 ?l16 ?c16 ?k16 ?a17 ?l17 ?c17 ?k17 ?a18 ?l18 ?c18 ?k18 ?a19 ?l19 ?c19 ?k19 ?a20 ?l20 ?c20 ?k20 ?a21 ?l21 ?c21 ?k21 ?a22 ?l22 ?c22 ?k22 ?a23 ?l23 ?c23 ?k23 ?a24 ?l24 ?c24 ?k24 ?a25 ?l25 ?c25 ?k25 ?a26 ?l26 ?c26 ?k26 ?a27 ?l27 ?c27 ?k27 ?a28 ?l28 ?c28 ?k28 ?a29 ?l29 ?c29 ?k29 ?a30 ?l30 ?c30 ?k30 ?a31 ?l31 ?c31 ?k31 ?a32 ?l32 ?c32 ?k32 ?a33 ?l33 ?c33 ?k33 ?a34 ?l34 ?c34 ?k34 ?a35 ?l35 ?c35 ?k35 ?b_abs ?b_bool ?b_int ?b_isinstance ?b_len ?b_list ?b_range ?b_str ?b_tuple ?ac0 ?rc0 ?ac1 ?rc1 ?aX0 ?xX0 ?kX0 ?bX0 ?tX0 ?iX0 ?sX0)
    (case a0 => k_is)
    (case l0 => k_is)
    (case c0 => k_is)
    (case k0 => k_is)
    (case a1 => k_is)
    (case l1 => k_is)
    (case c1 => k_is)
    (case k1 => k_is)
    (case t1 => k_is)
    (case u1 => rfl)
    (case a2 => k_is)
    (case l2 => k_is)
    (case c2 => k_is)
    (case k2 => k_is)
    (case a3 => k_is)
    (case l3 => k_is)
    (case c3 => k_is)
    (case k3 => k_is)
    (case a4 => k_is)
    (case l4 => k_is)
    (case c4 => k_is)
    (case k4 => k_is)
    (case a5 => k_is)
    (case l5 => k_is)
    (case c5 => k_is)
    (case k5 => k_is)
    (case a6 => k_is)
    (case l6 => k_is)
    (case c6 => k_is)
    (case k6 => k_is)
    (case a7 => k_is)
    (case l7 => k_is)
    (case c7 => k_is)
    (case k7 => k_is)
    (case a8 => k_is)
    (case l8 => k_is)
    (case c8 => k_is)
    (case k8 => k_is)
    (case a9 => k_is)
    (case l9 => k_is)
    (case c9 => k_is)
    (case k9 => k_is)
    (case a10 => k_is)
    (case l10 => k_is)
    (case c10 => k_is)
    (case k10 => k_is)
    (case a11 => k_is)
    (case l11 => k_is)
    (case c11 => k_is)
    (case k11 => k_is)
    (case a12 => k_is)
    (case l12 => k_is)
    (case c12 => k_is)
    (case k12 => k_is)
    (case a13 => k_is)
    (case l13 => k_is)
    (case c13 => k_is)
    (case k13 => k_is)
    (case a14 => k_is)
    (case l14 => k_is)
    (case c14 => k_is)
    (case k14 => k_is)
    (case a15 => k_is)
    (case l15 => k_is)
    (case c15 => k_is)
    (case k15 => k_is)
    (case a16 => k_is)
    (case l16 => k_is)
    (case c16 => k_is)
    (case k16 => k_is)
    (case a17 => k_is)
    (case l17 => k_is)
    (case c17 => k_is)
    (case k17 => k_is)
    (case a18 => k_is)
    (case l18 => k_is)
    (case c18 => k_is)
    (case k18 => k_is)
    (case a19 => k_is)
    (case l19 => k_is)
    (case c19 => k_is)
    (case k19 => k_is)
    (case a20 => k_is)
    (case l20 => k_is)
    (case c20 => k_is)
    (case k20 => k_is)
    (case a21 => k_is)
    (case l21 => k_is)
    (case c21 => k_is)
    (case k21 => k_is)
    (case a22 => k_is)
    (case l22 => k_is)
    (case c22 => k_is)
    (case k22 => k_is)
    (case a23 => k_is)
    (case l23 => k_is)
    (case c23 => k_is)
    (case k23 => k_is)
    (case a24 => k_is)
    (case l24 => k_is)
    (case c24 => k_is)
    (case k24 => k_is)
    (case a25 => k_is)
    (case l25 => k_is)
    (case c25 => k_is)
    (case k25 => k_is)
    (case a26 => k_is)
    (case l26 => k_is)
    (case c26 => k_is)
    (case k26 => k_is)
    (case a27 => k_is)
    (case l27 => k_is)
    (case c27 => k_is)
    (case k27 => k_is)
    (case a28 => k_is)
    (case l28 => k_is)
    (case c28 => k_is)
    (case k28 => k_is)
    (case a29 => k_is)
    (case l29 => k_is)
    (case c29 => k_is)
    (case k29 => k_is)
    (case a30 => k_is)
    (case l30 => k_is)
    (case c30 => k_is)
    (case k30 => k_is)
    (case a31 => k_is)
    (case l31 => k_is)
    (case c31 => k_is)
    (case k31 => k_is)
    (case a32 => k_is)
    (case l32 => k_is)
    (case c32 => k_is)
    (case k32 => k_is)
    (case a33 => k_is)
    (case l33 => k_is)
    (case c33 => k_is)
    (case k33 => k_is)
    (case a34 => k_is)
    (case l34 => k_is)
    (case c34 => k_is)
    (case k34 => k_is)
    (case a35 => k_is)
    (case l35 => k_is)
    (case c35 => k_is)
    (case k35 => k_is)
    (case b_abs => k_is)
    (case b_bool => k_is)
    (case b_int => k_is)
    (case b_isinstance => k_is)
    (case b_len => k_is)
    (case b_list => k_is)
    (case b_range => k_is)
    (case b_str => k_is)
    (case b_tuple => k_is)
    (case ac0 => k_is)
    (case rc0 => first | rfl | k_is)
    (case ac1 => k_is)
    (case rc1 => first | rfl | k_is)
    (case aX0 => k_is)
    (case xX0 => k_exc)
    (case kX0 => k_is)
    (case bX0 => k_is)
    (case tX0 => k_is)
    (case iX0 => k_is)
    (case sX0 => first | rfl | k_is)

