import PyProof.Rows.All
import Wide.All
import OpenK.AllK
import Wide.FinOn
import HandS.ForMost
import HandS.Wide
import HandS.IsInst
import HandS.Defaults
import PySem.Challenge.RW_trueshop_k60_boxes_of_values
set_option Elab.async false
set_option linter.all false
set_option maxRecDepth 100000
set_option maxHeartbeats 4000000
/-! A pure evaluator over the statement's own trees, part A: values, what stands for them. -/
namespace Pv
open PySem L2

inductive PV where
  | non | bl (b : Bool) | int (i : Int) | str (x : Str) | tup (xs : List PV) | lst (xs : List PV)

mutual
def PV.toD : PV → PyData
  | .non => .none
  | .bl b => .bool b
  | .int i => .int i
  | .str x => .str x
  | .tup xs => .tuple (PV.toDs xs)
  | .lst xs => .list (PV.toDs xs)
def PV.toDs : List PV → List PyData
  | [] => []
  | x :: xs => PV.toD x :: PV.toDs xs
end

mutual
/-- no list within -/
def PV.flat : PV → Bool
  | .tup xs => PV.flats xs
  | .lst _ => false
  | _ => true
def PV.flats : List PV → Bool
  | [] => true
  | x :: xs => PV.flat x && PV.flats xs
end

mutual
/-- the value v in the heap F is the datum -/
inductive Rep (K : PySem.W.Frag) (F : Hp) : V → PV → Prop
  | non : Rep K F .non .non
  | bl (b : Bool) : Rep K F (.bl b) (.bl b)
  | int (i : Int) : Rep K F (.int i) (.int i)
  | str (x : Str) : Rep K F (.str x) (.str x)
  | tup {a : Addr} {vs : List V} {xs : List PV} : SqT K F a vs → Reps K F vs xs → Rep K F (.ref a) (.tup xs)
  | lst {a : Addr} {vs : List V} {xs : List PV} : SqL K F a vs → Reps K F vs xs → Rep K F (.ref a) (.lst xs)
inductive Reps (K : PySem.W.Frag) (F : Hp) : List V → List PV → Prop
  | nil : Reps K F [] []
  | cons {v : V} {vs : List V} {x : PV} {xs : List PV} : Rep K F v x → Reps K F vs xs → Reps K F (v :: vs) (x :: xs)
end

section
variable {K : PySem.W.Frag} {F F' H H' : Hp} {v : V} {vs ws : List V} {x : PV} {xs ys : List PV}

theorem Same.rd {a : Addr} {u : HO} (e : Same F F') (h : Rd F a u) : Rd F' a u := by
  rcases h with h | ⟨o, h⟩
  · exact .inl (e _ _ h)
  · exact .inr ⟨o, e _ _ h⟩
theorem Same.sqL {a : Addr} {us : List V} (e : Same F F') (h : SqL K F a us) : SqL K F' a us := by
  rcases h with h | h
  · exact .inl (Same.rd e h)
  · exact .inr h
theorem Same.sqT {a : Addr} {us : List V} (e : Same F F') (h : SqT K F a us) : SqT K F' a us := by
  rcases h with h | h
  · exact .inl (Same.rd e h)
  · exact .inr h

mutual
theorem Rep.mono (e : Same F F') : ∀ {v : V} {x : PV}, Rep K F v x → Rep K F' v x
  | _, _, .non => .non
  | _, _, .bl b => .bl b
  | _, _, .int i => .int i
  | _, _, .str x => .str x
  | _, _, .tup h r => .tup (Same.sqT e h) (Reps.mono e r)
  | _, _, .lst h r => .lst (Same.sqL e h) (Reps.mono e r)
theorem Reps.mono (e : Same F F') : ∀ {vs : List V} {xs : List PV}, Reps K F vs xs → Reps K F' vs xs
  | _, _, .nil => .nil
  | _, _, .cons h r => .cons (Rep.mono e h) (Reps.mono e r)
end

theorem Reps.length : ∀ {vs : List V} {xs : List PV}, Reps K F vs xs → vs.length = xs.length
  | _, _, .nil => rfl
  | _, _, .cons _ r => congrArg Nat.succ (Reps.length r)
theorem Reps.get : ∀ {vs : List V} {xs : List PV} {i : Nat} {x : PV}, Reps K F vs xs → xs[i]? = some x → ∃ v, vs[i]? = some v ∧ Rep K F v x
  | _, _, _, _, .nil, e => by simp at e
  | _, _, 0, _, .cons r _, e => by simp at e; subst e; exact ⟨_, rfl, r⟩
  | _, _, i + 1, x, .cons _ t, e => by
    obtain ⟨u, h1, h2⟩ := Reps.get (i := i) (x := x) t (by simpa using e)
    exact ⟨u, by simpa using h1, h2⟩
theorem Reps.getV : ∀ {vs : List V} {xs : List PV} {i : Nat} {v : V}, Reps K F vs xs → vs[i]? = some v → ∃ x, xs[i]? = some x ∧ Rep K F v x
  | _, _, _, _, .nil, e => by simp at e
  | _, _, 0, _, .cons r _, e => by simp at e; subst e; exact ⟨_, rfl, r⟩
  | _, _, i + 1, x, .cons _ t, e => by
    obtain ⟨u, h1, h2⟩ := Reps.getV (i := i) (v := x) t (by simpa using e)
    exact ⟨u, by simpa using h1, h2⟩
theorem Reps.append : ∀ {vs ws : List V} {xs ys : List PV}, Reps K F vs xs → Reps K F ws ys → Reps K F (vs ++ ws) (xs ++ ys)
  | _, _, _, _, .nil, s => s
  | _, _, _, _, .cons r t, s => .cons r (Reps.append t s)
theorem Reps.take : ∀ {vs : List V} {xs : List PV} (n : Nat), Reps K F vs xs → Reps K F (vs.take n) (xs.take n)
  | _, _, 0, _ => .nil
  | _, _, _ + 1, .nil => .nil
  | _, _, n + 1, .cons r t => .cons r (Reps.take n t)
theorem Reps.drop : ∀ {vs : List V} {xs : List PV} (n : Nat), Reps K F vs xs → Reps K F (vs.drop n) (xs.drop n)
  | _, _, 0, r => r
  | _, _, _ + 1, .nil => .nil
  | _, _, n + 1, .cons _ t => Reps.drop n t
theorem Reps.set {v : V} {x : PV} (r : Rep K F v x) : ∀ {vs : List V} {xs : List PV} (i : Nat), Reps K F vs xs → Reps K F (vs.set i v) (xs.set i x)
  | _, _, _, .nil => .nil
  | _, _, 0, .cons _ t => .cons r t
  | _, _, i + 1, .cons q t => .cons q (Reps.set r i t)
theorem Reps.dropLast {vs : List V} {xs : List PV} (h : Reps K F vs xs) : Reps K F vs.dropLast xs.dropLast := by
  rw [List.dropLast_eq_take, List.dropLast_eq_take, h.length]
  exact h.take _
theorem Reps.one (h : Rep K F v x) : Reps K F [v] [x] := .cons h .nil
theorem Reps.ints : ∀ (ns : List Int), Reps K F (ns.map V.int) (ns.map PV.int)
  | [] => .nil
  | n :: ns => .cons (.int n) (Reps.ints ns)
/-- the inversions -/
theorem Rep.ofInt {i : Int} (h : Rep K F v (.int i)) : v = .int i := by cases h; rfl
theorem Rep.ofBl {b : Bool} (h : Rep K F v (.bl b)) : v = .bl b := by cases h; rfl
theorem Rep.ofStr {y : Str} (h : Rep K F v (.str y)) : v = .str y := by cases h; rfl
theorem Rep.ofNon (h : Rep K F v .non) : v = .non := by cases h; rfl
theorem Rep.ofTup (h : Rep K F v (.tup xs)) : ∃ a vs, v = .ref a ∧ SqT K F a vs ∧ Reps K F vs xs := by
  cases h with | tup h r => exact ⟨_, _, rfl, h, r⟩
theorem Rep.ofLst (h : Rep K F v (.lst xs)) : ∃ a vs, v = .ref a ∧ SqL K F a vs ∧ Reps K F vs xs := by
  cases h with | lst h r => exact ⟨_, _, rfl, h, r⟩

mutual
theorem Rep.toD : ∀ {v : V} {x : PV}, Rep K F v x → Dp K F v x.toD
  | _, _, .non => by unfold PV.toD; exact .non
  | _, _, .bl b => by unfold PV.toD; exact .bl b
  | _, _, .int i => by unfold PV.toD; exact .int i
  | _, _, .str x => by unfold PV.toD; exact .str x
  | _, _, .tup h r => by unfold PV.toD; exact .tup h (Reps.toDs r)
  | _, _, .lst h r => by unfold PV.toD; exact .lst h (Reps.toDs r)
theorem Reps.toDs : ∀ {vs : List V} {xs : List PV}, Reps K F vs xs → DpAll K F vs (PV.toDs xs)
  | _, _, .nil => by unfold PV.toDs; exact .nil
  | _, _, .cons h r => by unfold PV.toDs; exact .cons (Rep.toD h) (Reps.toDs r)
end

/-- a datum without lists leans on tuples alone -/
def Tups (F F' : Hp) : Prop := ∀ a vs, Rd F a (.tup vs) → Rd F' a (.tup vs)
mutual
theorem Rep.tups (e : Tups F F') : ∀ {v : V} {x : PV}, x.flat = true → Rep K F v x → Rep K F' v x
  | _, _, _, .non => .non
  | _, _, _, .bl b => .bl b
  | _, _, _, .int i => .int i
  | _, _, _, .str x => .str x
  | _, _, f, .tup h r => .tup (h.elim (fun z => .inl (e _ _ z)) .inr) (Reps.tups e (by unfold PV.flat at f; exact f) r)
  | _, _, f, .lst h r => by unfold PV.flat at f; cases f
theorem Reps.tups (e : Tups F F') : ∀ {vs : List V} {xs : List PV}, PV.flats xs = true → Reps K F vs xs → Reps K F' vs xs
  | _, _, _, .nil => .nil
  | _, _, f, .cons h r => by
    unfold PV.flats at f
    rw [Bool.and_eq_true] at f
    exact .cons (Rep.tups e f.1 h) (Reps.tups e f.2 r)
end
end

/-! ### the heap grows: F what is shared, H all -/
structure Grow (F H F' H' : Hp) : Prop where
  f : Same F F'
  h : Same H H'
  in_ : Same F' H'
  new : ∀ p, H p ≠ none → F p = none → F' p = none
theorem Grow.refl {F H : Hp} (e : Same F H) : Grow F H F H := ⟨Same.refl _, Same.refl _, e, fun _ _ h => h⟩
theorem Grow.trans {F H F1 H1 F2 H2 : Hp} (a : Grow F H F1 H1) (b : Grow F1 H1 F2 H2) : Grow F H F2 H2 :=
  ⟨a.f.trans b.f, a.h.trans b.h, b.in_, fun p h1 h2 => b.new p (fun z => h1 (a.h.free z)) (a.new p h1 h2)⟩
theorem same_upd {H : Hp} {p : Addr} {o : HO} (h : H p = none) : Same H (upd H p o) := fun b u e => by
  rw [upd_ne (ne_of_none e h)]; exact e
/-- a new object, shared -/
theorem Grow.laid {F H : Hp} {p : Addr} {o : HO} (e : Same F H) (h : H p = none) : Grow F H (upd F p o) (upd H p o) := by
  refine ⟨same_upd (e.free h), same_upd h, fun b u q => ?_, fun q h1 h2 => ?_⟩
  · by_cases hb : b = p
    · subst hb; rw [upd_same] at q ⊢; exact q
    · rw [upd_ne hb] at q ⊢; exact e b u q
  · have : q ≠ p := fun z => h1 (by rw [z]; exact h)
    rw [upd_ne this]; exact h2
/-- a new object of one's own -/
theorem Grow.own {F H : Hp} {p : Addr} {o : HO} (e : Same F H) (h : H p = none) : Grow F H F (upd H p o) := by
  refine ⟨Same.refl _, same_upd h, fun b u q => ?_, fun q h1 h2 => h2⟩
  rw [upd_ne (ne_of_none q (e.free h))]
  exact e b u q
/-- what a piece of code has given: a shared value, or a list that is all one's own -/
def Res (K : PySem.W.Frag) (H F' H' : Hp) (v : V) (x : PV) (own : Bool) : Prop :=
  if own = true then ∃ p vs xs, x = .lst xs ∧ v = .ref p ∧ H p = none ∧ F' p = none ∧ H' p = some (.lst vs) ∧ Reps K F' vs xs else Rep K F' v x
theorem Res.of {K : PySem.W.Frag} {H F' H' : Hp} {v : V} {x : PV} (h : Rep K F' v x) : Res K H F' H' v x false := by
  unfold Res; rw [if_neg Bool.false_ne_true]; exact h
theorem Res.mine {K : PySem.W.Frag} {H F' H' : Hp} {p : Addr} {vs : List V} {xs : List PV} (h1 : H p = none) (h2 : F' p = none) (h3 : H' p = some (.lst vs)) (r : Reps K F' vs xs) : Res K H F' H' (.ref p) (.lst xs) true := by
  unfold Res; rw [if_pos rfl]; exact ⟨p, vs, xs, rfl, rfl, h1, h2, h3, r⟩
/-- it may be shared -/
theorem Res.share {K : PySem.W.Frag} {F H F' H' : Hp} {v : V} {x : PV} {own : Bool} (g : Grow F H F' H') (h : Res K H F' H' v x own) : ∃ F2, Grow F H F2 H' ∧ Rep K F2 v x := by
  unfold Res at h
  cases own with
  | false => rw [if_neg Bool.false_ne_true] at h; exact ⟨F', g, h⟩
  | true =>
    rw [if_pos rfl] at h
    obtain ⟨p, vs, xs, rfl, rfl, h1, h2, h3, r⟩ := h
    have s1 : Same F' (upd F' p (.lst vs)) := same_upd h2
    refine ⟨upd F' p (.lst vs), ⟨g.f.trans s1, g.h, fun b u q => ?_, fun q z1 z2 => ?_⟩, .lst (.inl (.inl upd_same)) (r.mono s1)⟩
    · by_cases hb : b = p
      · subst hb; rw [upd_same] at q; cases q; exact h3
      · rw [upd_ne hb] at q; exact g.in_ b u q
    · have : q ≠ p := fun z => z1 (by rw [z]; exact h1)
      rw [upd_ne this]; exact g.new q z1 z2
theorem Res.mono {K : PySem.W.Frag} {H0 H F' H' : Hp} {v : V} {x : PV} {own : Bool} (s : Same H0 H) (h : Res K H F' H' v x own) : Res K H0 F' H' v x own := by
  unfold Res at h ⊢
  cases own with
  | false => rw [if_neg Bool.false_ne_true] at h ⊢; exact h
  | true =>
    rw [if_pos rfl] at h ⊢
    obtain ⟨p, vs, xs, e1, e2, h1, h2, h3, r⟩ := h
    exact ⟨p, vs, xs, e1, e2, s.free h1, h2, h3, r⟩
end Pv

/-! Part B: the evaluator of expressions -/
namespace Pv
open PySem L2

/-- what the surroundings tell: the defs' answers, their defaults, keyword shapes, constants -/
structure Tb where
  raw : Str → List PV → Option (PV × Bool)
  own : Str → Bool
  dfl : Str → Nat → Option (List PV)
  kwd : Str → Nat → List Str → Bool
  con : Str → Option PV
  fgt : Nat → Nat → List (Nat × Bool)
  frz : Nat → Nat → Bool
/-- the value of a call; the list of a def that hands back a list of its own -/
def fstO : Option (PV × Bool) → Option PV
  | some (x, _) => some x
  | none => none
def ownO : Option (PV × Bool) → Option (List PV)
  | some (.lst xs, true) => some xs
  | _ => none
def Tb.call (T : Tb) (f : Str) (xs : List PV) : Option (PV × Bool) := if T.own f then (ownO (T.raw f xs)).bind fun ys => some (.lst ys, true) else (fstO (T.raw f xs)).bind fun x => some (x, false)

def visB (sc : Scope) (x : Str) : Bool := match sc.names.lookup x with
  | some .local => true | some .cell => true | some .free => true | _ => false
def locB (sc : Scope) (x : Str) : Bool := match sc.names.lookup x with
  | some .local => true | some .cell => true | _ => false
def glB (sc : Scope) (x : Str) : Bool := match sc.names.lookup x with
  | some .globalImplicit => true | _ => false
def okNm (x : Str) : Bool := !(x == ("__debug__" : Str)) && !(x == ("__classdict__" : Str))
def idx (N : List Str) (x : Str) : Option Nat := N.findIdx? (· == x)

abbrev Sl := List (Option PV)
abbrev Out := Option (PV × Bool)
def sh (x : PV) : Out := some (x, false)

def mulOk (i j : Int) : Bool := decide (i.natAbs.log2 + j.natAbs.log2 < 1000000)
def divOk (j : Int) : Bool := decide (j ≠ 0) && decide (j.natAbs.log2 < 9000)
def big : Nat := 1000000

def binop (op : Operator) (x y : PV) : Out :=
  match op, x, y with
  | .Add, .int i, .int j => sh (.int (i + j))
  | .Add, .str a, .str b => if a.length + b.length ≤ big then sh (.str (a ++ b)) else none
  | .Add, .lst a, .lst b => if a.length + b.length ≤ big then some (.lst (a ++ b), true) else none
  | .Add, .tup (a :: as), .tup (b :: bs) => if (a :: as).length + (b :: bs).length ≤ big then sh (.tup ((a :: as) ++ (b :: bs))) else none
  | .Sub, .int i, .int j => sh (.int (i - j))
  | .Mult, .int i, .int j => if mulOk i j then sh (.int (i * j)) else none
  | .FloorDiv, .int i, .int j => if divOk j then sh (.int (i.fdiv j)) else none
  | .Mod, .int i, .int j => if j = 0 then none else sh (.int (i.fmod j))
  | .Pow, .int i, .int j => if 0 ≤ j ∧ j ≤ 1000 ∧ i.natAbs < 2 ^ 64 then sh (.int (i ^ j.toNat)) else none
  | _, _, _ => none

def eqD (x y : PV) : Option Bool := if SeqAt.shaped x.toD && SeqAt.shaped y.toD then some (PyData.eqv x.toD y.toD) else none
/-- the flat items, for in -/
def flatP : PV → Option V
  | .non => some .non | .bl b => some (.bl b) | .int i => some (.int i) | .str s => some (.str s) | _ => none
def flatPs : List PV → Option (List V)
  | [] => some []
  | x :: xs => (flatP x).bind fun v => (flatPs xs).map fun vs => v :: vs
def isIn (x : PV) (xs : List PV) : Option Bool := (flatP x).bind fun v => (flatPs xs).bind fun vs => if flatV v && vs.all flatV then some (inV v vs) else none

def cmp (op : CmpOp) (x y : PV) : Option Bool :=
  match op, x, y with
  | .Lt, .int i, .int j => some (decide (i < j))
  | .LtE, .int i, .int j => some (decide (i ≤ j))
  | .Gt, .int i, .int j => some (decide (j < i))
  | .GtE, .int i, .int j => some (decide (j ≤ i))
  | .Eq, x, y => eqD x y
  | .NotEq, x, y => (eqD x y).map (!·)
  | .Is, .non, .non => some true
  | .Is, _, .non => some false
  | .IsNot, .non, .non => some false
  | .IsNot, _, .non => some true
  | .In, x, .lst xs => isIn x xs
  | .In, x, .tup xs => isIn x xs
  | .NotIn, x, .lst xs => (isIn x xs).map (!·)
  | .NotIn, x, .tup xs => (isIn x xs).map (!·)
  | .In, .str a, .str b => some (!(Builtin.Str.occurrences b a 0 b.length 1).isEmpty)
  | .NotIn, .str a, .str b => some (!(!(Builtin.Str.occurrences b a 0 b.length 1).isEmpty))
  | _, _, _ => none

def truth : PV → Option Bool
  | .non => some false
  | .bl b => some b
  | .int i => some (i != 0)
  | .str x => if x.length ≤ big then some ((x.length : Int) != 0) else none
  | .lst xs => some (!xs.isEmpty)
  | .tup xs => some (!xs.isEmpty)

def getIx (x y : PV) : Out :=
  match x, y with
  | .lst xs, .int i => (atI xs i).bind sh
  | .tup xs, .int i => (atI xs i).bind sh
  | .str z, .int i => if z.length ≤ big then (atI z.cps.toList i).bind fun c => sh (.str ⟨#[c]⟩) else none
  | _, _ => none
def cutP (xs : List PV) (lo hi : Option Int) : List PV := (xs.drop (HT.sIx xs.length 0 lo)).take (HT.sIx xs.length xs.length hi - HT.sIx xs.length 0 lo)
def getSl (x : PV) (lo hi : Option Int) : Out :=
  match x with
  | .lst xs => some (.lst (cutP xs lo hi), true)
  | .tup xs => if HT.sIx xs.length 0 lo = 0 ∧ HT.sIx xs.length xs.length hi = xs.length then none else sh (.tup (cutP xs lo hi))
  | _ => none

def clsIs (t : String) : PV → Option Bool
  | .non => kitB "NoneType" t
  | .bl _ => kitB "bool" t
  | .int _ => kitB "int" t
  | .str _ => kitB "str" t
  | .tup _ => kitB "tuple" t
  | .lst _ => kitB "list" t

/-- the built-ins that are called by name, on values -/
def blt (f : Str) (xs : List PV) : Out :=
  if f = "len" then (match xs with
    | [.lst ys] => sh (.int ys.length) | [.tup ys] => sh (.int ys.length)
    | [.str z] => if z.length ≤ big then sh (.int z.length) else none | _ => none)
  else if f = "abs" then (match xs with | [.int i] => sh (.int (if i < 0 then -i else i)) | _ => none)
  else if f = "int" then (match xs with | [.int i] => sh (.int i) | [.bl k] => sh (.int (if k then 1 else 0)) | _ => none)
  else if f = "list" then (match xs with | [.lst ys] => some (.lst ys, true) | [.tup ys] => some (.lst ys, true) | _ => none)
  else if f = "tuple" then (match xs with | [.lst ys] => sh (.tup ys) | [.tup ys] => sh (.tup ys) | _ => none)
  else if f = "str" then (match xs with | [.int i] => if i.natAbs.log2 < 1920 then sh (.str (toString i)) else none | _ => none)
  else none
/-- .. with its own list told -/
def bltV (f : Str) (xs : List PV) : Out := if f = "list" then (match xs with | [.lst ys] => some (.lst ys, true) | [.tup ys] => some (.lst ys, true) | _ => none) else (blt f xs).bind fun z => sh z.1
def bltNames : List Str := ["len", "abs", "int", "list", "tuple", "str", "isinstance", "range"]
def isBlt (f : Str) : Bool := bltNames.any (· == f)
/-- classes that are named in isinstance -/
def tyNames : List (Str × String) := [("int", "int"), ("bool", "bool"), ("tuple", "tuple"), ("list", "list"), ("str", "str")]

def evEs (f : PySem.Expr → Out) : List PySem.Expr → Option (List PV)
  | [] => some []
  | e :: es => match e with
    | .Starred _ _ => none
    | e => (f e).bind fun x => (evEs f es).map fun xs => x.1 :: xs
def blOf : PV → Option Bool
  | .bl b => some b
  | _ => none
def neg1 : PV → Out
  | .int i => sh (.int (-i))
  | _ => none
def not1 : PV → Out
  | .bl c => sh (.bl (!c))
  | _ => none
def boolV (f : PySem.Expr → Out) (op : BoolOp) : List PySem.Expr → Out
  | [] => none
  | e :: es => match es with
    | [] => f e
    | e' :: es' => match op with
      | .And => (f e).bind fun x => (blOf x.1).bind fun b => if b then boolV f op (e' :: es') else sh (.bl false)
      | .Or => (f e).bind fun x => (blOf x.1).bind fun b => if b then sh (.bl true) else boolV f op (e' :: es')
def boolT (f : PySem.Expr → Option Bool) (op : BoolOp) : List PySem.Expr → Option Bool
  | [] => none
  | e :: es => match es with
    | [] => f e
    | e' :: es' => match op with
      | .And => (f e).bind fun b => if b then boolT f op (e' :: es') else some false
      | .Or => (f e).bind fun b => if b then some true else boolT f op (e' :: es')
/-- a target: a name, or a tuple of names: what is stored where -/
def updN (N : List Str) (sc : Scope) (asg : Str → Bool) (x : Str) (v : PV) : Option (List (Nat × PV)) :=
  (idx N x).bind fun i => if locB sc x && asg x then some [(i, v)] else none
def updNs (N : List Str) (sc : Scope) (asg : Str → Bool) : List PySem.Expr → List PV → Option (List (Nat × PV))
  | [], [] => some []
  | .Name x _ :: es, v :: vs => (updN N sc asg x v).bind fun u => (updNs N sc asg es vs).map fun us => u ++ us
  | _, _ => none
def updT0 (N : List Str) (sc : Scope) (asg : Str → Bool) (t : PySem.Expr) (v : PV) : Option (List (Nat × PV)) :=
  match t, v with
  | .Name x _, v => updN N sc asg x v
  | .Tuple es _ _, .tup vs => updNs N sc asg es vs
  | _, _ => none
/-- so many parts of a tuple -/
def unT (n : Nat) : PV → Option (List PV)
  | .tup vs => if vs.length = n then some vs else none
  | _ => none
def updGs (N : List Str) (sc : Scope) (asg : Str → Bool) (vs : List PV) : List PySem.Expr → Nat → Option (List (Nat × PV))
  | [], _ => some []
  | .Name x _ :: es, i => (updN N sc asg x (vs.getD i .non)).bind fun u => (updGs N sc asg vs es (i + 1)).map fun us => u ++ us
  | _, _ => none
def updTK {α : Type} (N : List Str) (sc : Scope) (asg : Str → Bool) (t : PySem.Expr) (v : PV) (k : List (Nat × PV) → Option α) : Option α :=
  match t with
  | .Name x _ => (updN N sc asg x v).bind k
  | .Tuple es _ _ => (unT es.length v).bind fun vs => (updGs N sc asg vs es 0).bind k
  | _ => none
def updT (N : List Str) (sc : Scope) (asg : Str → Bool) (t : PySem.Expr) (v : PV) : Option (List (Nat × PV)) := updTK N sc asg t v some
theorem updTK_eq {α : Type} {N : List Str} {sc : Scope} {asg : Str → Bool} {t : PySem.Expr} {v : PV} {k : List (Nat × PV) → Option α} : updTK N sc asg t v k = (updT N sc asg t v).bind k := by
  unfold updT updTK
  split
  · rw [Option.bind_assoc]; rfl
  · rw [Option.bind_assoc]
    congr 1
    funext vs
    rw [Option.bind_assoc]
    rfl
  · rfl
theorem updGs_old {N : List Str} {sc : Scope} {asg : Str → Bool} {vs : List PV} : ∀ {es : List PySem.Expr} {i : Nat} {us : List (Nat × PV)}, i + es.length = vs.length → updGs N sc asg vs es i = some us → updNs N sc asg es (vs.drop i) = some us
  | [], i, us, hl, h => by
    rw [List.drop_eq_nil_of_le (by simp at hl; omega)]
    exact h
  | e :: es, i, us, hl, h => by
    have hi : i < vs.length := by simp at hl; omega
    rw [List.drop_eq_getElem_cons hi]
    cases e with
    | Name x p =>
      simp only [updGs] at h
      simp only [updNs]
      obtain ⟨u, e1, h⟩ := Option.bind_eq_some_iff.mp h
      obtain ⟨us', e2, h⟩ := Option.map_eq_some_iff.mp h
      have e3 := updGs_old (by simp at hl; omega) e2
      have : vs.getD i .non = vs[i] := by simp [List.getD, hi]
      rw [this] at e1
      rw [e1, e3]
      simp only [Option.bind_some, Option.map_some]
      rw [h]
    | _ => simp only [updGs] at h; cases h
theorem updT_old {N : List Str} {sc : Scope} {asg : Str → Bool} {t : PySem.Expr} {v : PV} {us : List (Nat × PV)} (h : updT N sc asg t v = some us) : updT0 N sc asg t v = some us := by
  unfold updT updTK at h
  split at h
  · obtain ⟨u, e1, h⟩ := Option.bind_eq_some_iff.mp h
    cases h
    cases v <;> (unfold updT0; exact e1)
  · obtain ⟨vs, e1, h⟩ := Option.bind_eq_some_iff.mp h
    obtain ⟨u, e2, h⟩ := Option.bind_eq_some_iff.mp h
    cases h
    unfold unT at e1
    split at e1
    · split at e1
      · cases e1
        rename_i hl
        have := updGs_old (by rw [hl]; simp) e2
        unfold updT0
        exact this
      · cases e1
    · cases e1
  · cases h
def app : List (Nat × PV) → Sl → Sl
  | [], σ => σ
  | u :: us, σ => app us (σ.set u.1 (some u.2))
def compL (b : PV → Option Sl) (t : Sl → Option Bool) (e : Sl → Out) : List PV → Option (List PV)
  | [] => some []
  | x :: r => (b x).bind fun σ => (t σ).bind fun c =>
    if c then (e σ).bind fun y => (compL b t e r).map fun ys => y.1 :: ys else compL b t e r
def compM (step : PV → Option (Option PV)) : List PV → Option (List PV)
  | [] => some []
  | x :: r => (step x).bind fun o => (match o with | some y => (compM step r).map fun ys => y :: ys | none => compM step r)
theorem compM_eq {b : PV → Option Sl} {t : Sl → Option Bool} {e : Sl → Out} {step : PV → Option (Option PV)} (h : ∀ x, step x = (b x).bind fun σ => (t σ).bind fun c => if c then (e σ).bind fun y => some (some y.1) else some none) : ∀ l, compM step l = compL b t e l
  | [] => rfl
  | x :: r => by
    unfold compM compL
    rw [h, compM_eq h r]
    cases b x with
    | none => rfl
    | some σ =>
      simp only [Option.bind_some]
      cases t σ with
      | none => rfl
      | some c =>
        cases c with
        | true =>
          simp only [Option.bind_some, if_true]
          cases e σ <;> rfl
        | false => rfl
def ifsB (f : PySem.Expr → Option Bool) : List PySem.Expr → Option Bool
  | [] => some true
  | [k] => f k
  | _ => none
/-- the names of a comprehension's own, with their places -/
def ownOf (N : List Str) (scope : Scope) : List (Str × Nat) := scope.names.filterMap fun y => match y.2 with
  | .local => (idx N y.1).map fun i => (y.1, i)
  | .cell => (idx N y.1).map fun i => (y.1, i)
  | _ => none
def asgOf (scope : Scope) : Str → Bool := fun x => locB scope x
def wipeP (σ : Sl) : List Nat → Sl
  | [] => σ
  | v :: vs => (wipeP σ vs).set v none
def intsFrom (lo : Int) : Nat → List PV
  | 0 => []
  | n + 1 => .int lo :: intsFrom (lo + 1) n
def seqOf : PV → Option (List PV)
  | .lst xs => if xs.length ≤ big then some xs else none
  | .tup xs => if xs.length ≤ big then some xs else none
  | _ => none
def small62 (i : Int) : Bool := decide (-(2 ^ 62) ≤ i) && decide (i < 2 ^ 62)

def rng1 : PV → Option (List PV)
  | .int j => if small62 j && decide (j.toNat ≤ big) then some (intsFrom 0 j.toNat) else none
  | _ => none
def rng2 : PV → PV → Option (List PV)
  | .int i, .int j => if small62 i && small62 j && decide ((j - i).toNat ≤ big) then some (intsFrom i (j - i).toNat) else none
  | _, _ => none
def intO : PV → Option (Option Int)
  | .int i => some (some i)
  | _ => none
mutual
def evE (T : Tb) (N : List Str) : Nat → Scope → Sl → PySem.Expr → Out
  | 0, _, _, _ => none
  | n + 1, sc, σ, e => match e with
    | .Constant c _ _ => (match c with
      | .none => sh .non | .bool b => sh (.bl b) | .int i => sh (.int i) | .str s => sh (.str s) | _ => none)
    | .Name x _ => if okNm x then (match idx N x with
      | some i => if visB sc x then (match σ[i]? with | some (some v) => sh v | _ => none) else none
      | none => if glB sc x then (T.con x).bind sh else none) else none
    | .Tuple es _ _ => if es.length ≤ big then (evEs (evE T N n sc σ) es).bind fun xs => sh (.tup xs) else none
    | .List es _ => if es.length ≤ big then (evEs (evE T N n sc σ) es).bind fun xs => some (.lst xs, true) else none
    | .BinOp a op b _ => (evE T N n sc σ a).bind fun x => (evE T N n sc σ b).bind fun y => (binop op x.1 y.1).bind fun z => sh z.1
    | .UnaryOp .USub a _ => (evE T N n sc σ a).bind fun x => neg1 x.1
    | .UnaryOp .Not a _ => (evE T N n sc σ a).bind fun x => not1 x.1
    | .BoolOp op es _ => boolV (evE T N n sc σ) op es
    | .Compare a [op] [b] _ => if behindInMarks op b then none else (evE T N n sc σ a).bind fun x => (evE T N n sc σ b).bind fun y => (cmp op x.1 y.1).bind fun c => sh (.bl c)
    | .IfExp c a b _ => (evT T N n sc σ c).bind fun k => if k then evE T N n sc σ a else evE T N n sc σ b
    | .Subscript a (.Slice lo hi none _) _ => (evE T N n sc σ a).bind fun x => (evO T N n sc σ lo).bind fun l => (evO T N n sc σ hi).bind fun h => (getSl x.1 l h).bind fun z => sh z.1
    | .Subscript a (.Slice _ _ (some _) _) _ => none
    | .Subscript a b _ => (evE T N n sc σ a).bind fun x => (evE T N n sc σ b).bind fun y => (getIx x.1 y.1).bind fun z => sh z.1
    | .Call (.Name f _) args [] _ => if okNm f && glB sc f then (match T.dfl f args.length with
      | some ds => (evEs (evE T N n sc σ) args).bind fun xs => T.call f (xs ++ ds)
      | none => if isBlt f then (if f = "isinstance" then (match args with
          | [a, .Name t _] => if glB sc t then (tyNames.lookup t).bind fun ty => (evE T N n sc σ a).bind fun x => (clsIs ty x.1).bind fun b => sh (.bl b) else none
          | _ => none) else (match args with | [] => none | _ => (evEs (evE T N n sc σ) args).bind fun xs => bltV f xs)) else none) else none
    | .Call (.Name f _) args [⟨some k, v, _⟩] _ => if okNm f && glB sc f && T.kwd f args.length [k] then
        (match args with | [] => none | _ => (evEs (evE T N n sc σ) args).bind fun xs => (evE T N n sc σ v).bind fun y => T.call f (xs ++ [y.1])) else none
    | .ListComp elt [⟨tg, it, ifs, z⟩] scope _ => if decide (z = 0) && blkC N sc scope (ownOf N scope) then
        (evI T N n sc σ it).bind fun items =>
          (compM (fun x => updTK N (relS scope sc) (asgOf scope) tg x fun us =>
            (ifsB (evT T N n (relS scope sc) (app us (wipeP σ ((ownOf N scope).map (·.2))))) ifs).bind fun c =>
              if c then (evE T N n (relS scope sc) (app us (wipeP σ ((ownOf N scope).map (·.2)))) elt).bind fun y => some (some y.1) else some none) items).bind fun ys => some (.lst ys, true) else none
    | _ => none
def evT (T : Tb) (N : List Str) : Nat → Scope → Sl → PySem.Expr → Option Bool
  | 0, _, _, _ => none
  | n + 1, sc, σ, e => match e with
    | .Compare a [op] [b] _ => if behindInMarks op b then none else (evE T N n sc σ a).bind fun x => (evE T N n sc σ b).bind fun y => cmp op x.1 y.1
    | .Compare _ _ _ _ => none
    | .BoolOp op es _ => boolT (evT T N n sc σ) op es
    | .UnaryOp .Not a _ => (evT T N n sc σ a).map (!·)
    | .IfExp _ _ _ _ => none
    | e => (evE T N n sc σ e).bind fun x => truth x.1
def evO (T : Tb) (N : List Str) : Nat → Scope → Sl → Option PySem.Expr → Option (Option Int)
  | 0, _, _, _ => none
  | n + 1, sc, σ, e => match e with
    | none => some none
    | some e => (evE T N n sc σ e).bind fun x => intO x.1
/-- what is walked -/
def evI (T : Tb) (N : List Str) : Nat → Scope → Sl → PySem.Expr → Option (List PV)
  | 0, _, _, _ => none
  | n + 1, sc, σ, e => match e with
    | .Set _ _ _ => none
    | .Call (.Name f _) args [] _ => if f = "range" then
        (if glB sc f then (match args with
          | [a] => (evE T N n sc σ a).bind fun x => rng1 x.1
          | [a, b] => (evE T N n sc σ a).bind fun x => (evE T N n sc σ b).bind fun y => rng2 x.1 y.1
          | _ => none) else none)
        else (evE T N n sc σ e).bind fun x => seqOf x.1
    | e => (evE T N n sc σ e).bind fun x => seqOf x.1
end
end Pv

/-! Part C: what the evaluator says of an expression is so -/
namespace Pv
open PySem L2 PySem.Spec PyProof.Rows

structure Cc where
  P : Program
  w : World
  K : PySem.W.Frag
  mg : Str → Option Value
  base : Heap
  N : List Str
  d : Nat
structure CxOk (c : Cc) (sc : Scope) (asg : Str → Bool) (X : Cx) : Prop where
  P : X.prog = c.P
  w : X.w = c.w
  K : X.K = c.K
  mg : X.mg = c.mg
  base : X.base = c.base
  N : X.N = c.N
  sc : X.env.scope = sc
  rm : Room c.d X.A
  calm : X.calm = true
  as : ∀ x, asg x = true → X.fn x = true ∨ X.env.scope.names.lookup x = some .local

def Vrel (K : PySem.W.Frag) (F : Hp) (σp : Sl) (σ : L2.St) : Prop := σp.length = σ.length ∧ ∀ (i : Nat) (x : PV), σp[i]? = some (some x) → ∃ v, σ[i]? = some (some v) ∧ Rep K F v x
theorem Vrel.mono {K : PySem.W.Frag} {F F' : Hp} {σp : Sl} {σ : L2.St} (s : Same F F') (h : Vrel K F σp σ) : Vrel K F' σp σ := ⟨h.1, fun i x e =>
  let ⟨v, h1, h2⟩ := h.2 i x e; ⟨v, h1, h2.mono s⟩⟩

def EvE (K : PySem.W.Frag) (t : TE) (σp : Sl) (x : PV) (own : Bool) : Prop := ∀ F H σ, Same F H → Vrel K F σp σ → ∀ Q : VK, (∀ v F' H', Grow F H F' H' → Res K H F' H' v x own → Q v H') → t σ H Q
def EvS (K : PySem.W.Frag) (t : TE) (σp : Sl) (x : PV) : Prop := ∀ F H σ, Same F H → Vrel K F σp σ → ∀ Q : VK, (∀ v F' H', Grow F H F' H' → Rep K F' v x → Q v H') → t σ H Q
def EvT (K : PySem.W.Frag) (t : TT) (σp : Sl) (b : Bool) : Prop := ∀ F H σ, Same F H → Vrel K F σp σ → ∀ Q : Bool → Hp → Prop, (∀ F' H', Grow F H F' H' → Q b H') → t σ H Q
def EvA (K : PySem.W.Frag) (t : TA) (σp : Sl) (xs : List PV) : Prop := ∀ F H σ, Same F H → Vrel K F σp σ → ∀ Q : List V → Hp → Prop, (∀ vs F' H', Grow F H F' H' → Reps K F' vs xs → Q vs H') → t σ H Q
def EvO (K : PySem.W.Frag) (t : TO) (σp : Sl) (o : Option Int) : Prop := ∀ F H σ, Same F H → Vrel K F σp σ → ∀ Q : Option Int → Hp → Prop, (∀ F' H', Grow F H F' H' → Q o H') → t σ H Q
/-- an iterator over vs, whatever else is laid -/
def ItOk (J : It) (F : Hp) (vs : List V) : Prop := ∀ H i, Same F H → (i < vs.length → J.go i H ∧ ∀ x H', J.yld i H x H' → H' = H ∧ vs[i]? = some x) ∧ (vs.length ≤ i → J.stop i H)
def EvI (K : PySem.W.Frag) (wi : TI) (σp : Sl) (xs : List PV) : Prop := ∀ F H σ, Same F H → Vrel K F σp σ → ∀ R : It → Hp → Prop, (∀ J vs F' H', Grow F H F' H' → Reps K F' vs xs → ItOk J F' vs → R J H') → wi σ H R

section
variable {K : PySem.W.Frag} {σp : Sl} {x y : PV} {own : Bool}
theorem EvE.s {t : TE} (h : EvE K t σp x own) : EvS K t σp x := fun F H σ s vr Q q => h F H σ s vr Q fun v F' H' g r =>
  let ⟨F2, g2, r2⟩ := r.share g; q v F2 H' g2 r2
theorem EvS.e {t : TE} (h : EvS K t σp x) : EvE K t σp x false := fun F H σ s vr Q q => h F H σ s vr Q fun v F' H' g r => q v F' H' g (.of r)

def tF : TE := fun _ _ _ => False
def ttF : TT := fun _ _ _ => False
def taF : TA := fun _ _ _ => False
def toF : TO := fun _ _ _ => False
def tiF : TI := fun _ _ _ => False
theorem pe_F {X : Cx} {e : PySem.Expr} : PE X e tF := ⟨fun _ _ _ _ _ _ h => h.elim⟩
theorem pt_F {X : Cx} {e : PySem.Expr} : PT X e ttF := ⟨fun _ _ _ _ _ _ h => h.elim⟩
theorem pw_F {X : Cx} {e : PySem.Expr} : PW X e ttF := ⟨fun _ _ _ _ _ _ _ h => h.elim⟩
theorem pa_F {X : Cx} {es : List PySem.Expr} : PA X es taF := ⟨fun _ _ _ _ _ _ _ h => h.elim⟩
theorem po_F {X : Cx} {e : Option PySem.Expr} : PO X e toF := ⟨fun _ _ _ _ _ _ h => h.elim⟩
theorem pi_F {X : Cx} {tg e : PySem.Expr} : PI X tg e tiF := ⟨fun _ _ _ _ _ _ h => h.elim⟩

/-- sound: the rule's term and what it reads -/
def SE (c : Cc) (sc : Scope) (asg : Str → Bool) (e : PySem.Expr) (f : Sl → Out) : Prop := ∃ t, (∀ X, CxOk c sc asg X → PE X e t) ∧ ∀ σp x own, f σp = some (x, own) → EvE c.K t σp x own
def ST (c : Cc) (sc : Scope) (asg : Str → Bool) (e : PySem.Expr) (f : Sl → Option Bool) : Prop := ∃ t, (∀ X, CxOk c sc asg X → PT X e t) ∧ ∀ σp b, f σp = some b → EvT c.K t σp b
def SA (c : Cc) (sc : Scope) (asg : Str → Bool) (es : List PySem.Expr) (f : Sl → Option (List PV)) : Prop := ∃ t, (∀ X, CxOk c sc asg X → PA X es t) ∧ ∀ σp xs, f σp = some xs → EvA c.K t σp xs
def SO (c : Cc) (sc : Scope) (asg : Str → Bool) (e : Option PySem.Expr) (f : Sl → Option (Option Int)) : Prop := ∃ t, (∀ X, CxOk c sc asg X → PO X e t) ∧ ∀ σp o, f σp = some o → EvO c.K t σp o
def SI (c : Cc) (sc : Scope) (asg : Str → Bool) (e : PySem.Expr) (f : Sl → Option (List PV)) : Prop := ∀ tg, ∃ t, (∀ X, CxOk c sc asg X → PI X tg e t) ∧ ∀ σp xs, f σp = some xs → EvI c.K t σp xs

theorem SE.none {c : Cc} {sc : Scope} {asg : Str → Bool} {e : PySem.Expr} : SE c sc asg e fun _ => none := ⟨tF, fun _ _ => pe_F, fun _ _ _ h => nomatch h⟩
theorem ST.none {c : Cc} {sc : Scope} {asg : Str → Bool} {e : PySem.Expr} : ST c sc asg e fun _ => none := ⟨ttF, fun _ _ => pt_F, fun _ _ h => nomatch h⟩
theorem SI.none {c : Cc} {sc : Scope} {asg : Str → Bool} {e : PySem.Expr} : SI c sc asg e fun _ => none := fun _ => ⟨tiF, fun _ _ => pi_F, fun _ _ h => nomatch h⟩
end

/-! ### arguments -/
section
variable {c : Cc} {sc : Scope} {asg : Str → Bool}
theorem star_of {e : PySem.Expr} {es : List PySem.Expr} {env : Env} (h : ∀ a p, e ≠ .Starred a p) : starEach (e :: es) env = (false, eval e env) :: starEach es env := by
  cases e <;> first | rfl | exact absurd rfl (h _ _)
theorem sa_of {f : Sl → PySem.Expr → Out} : ∀ {es : List PySem.Expr}, (∀ e ∈ es, SE c sc asg e fun σp => f σp e) → SA c sc asg es fun σp => evEs (f σp) es
  | [], _ => ⟨tNil, fun _ _ => pa_nil, fun σp xs h => by
      simp only [evEs] at h; cases h
      intro F H σ s vr Q q
      exact q [] F H (Grow.refl s) .nil⟩
  | e :: es, ih => by
    obtain ⟨te, h1, h2⟩ := ih e (List.mem_cons_self ..)
    obtain ⟨ts, h3, h4⟩ := sa_of (f := f) (es := es) fun e' he => ih e' (List.mem_cons_of_mem _ he)
    by_cases hs : ∃ a p, e = .Starred a p
    · obtain ⟨a, p, rfl⟩ := hs
      exact ⟨taF, fun _ _ => pa_F, fun σp xs h => by simp only [evEs] at h; cases h⟩
    · have hs' : ∀ a p, e ≠ .Starred a p := fun a p q => hs ⟨a, p, q⟩
      refine ⟨tCons te ts, fun X ok => pa_cons (h1 X ok) (h3 X ok) (star_of hs'), fun σp xs h => ?_⟩
      have h' : ((f σp e).bind fun x => (evEs (f σp) es).map fun xs => x.1 :: xs) = some xs := by
        cases e <;> first | exact h | exact absurd rfl (hs' _ _)
      cases e1 : f σp e with
      | none => rw [e1] at h'; cases h'
      | some p =>
        obtain ⟨x, own⟩ := p
        rw [e1] at h'
        cases e2 : evEs (f σp) es with
        | none => rw [e2] at h'; cases h'
        | some ys =>
          rw [e2] at h'
          cases h'
          intro F H σ s vr Q q
          refine (h2 σp x own e1).s F H σ s vr _ fun v F1 H1 g1 r1 => ?_
          refine h4 σp ys e2 F1 H1 σ g1.in_ (vr.mono g1.f) _ fun vs F2 H2 g2 r2 => ?_
          exact q _ F2 H2 (g1.trans g2) (.cons (r1.mono g2.f) r2)

/-! ### names, constants, displays -/
theorem se_const {k : Const} {v : V} {x : PV} {j : Nat} {pos : Pos} (h : ∀ X, PE X (.Constant k j pos) (tC v)) (r : ∀ F, Rep c.K F v x) : SE c sc asg (.Constant k j pos) fun _ => sh x :=
  ⟨tC v, fun X _ => h X, fun σp y own e => by
    cases e
    exact EvS.e fun F H σ s vr Q q => q v F H (Grow.refl s) (r F)⟩
theorem okNm_d {x : Str} (h : okNm x = true) : (x == ("__debug__" : Str)) = false ∧ (x == ("__classdict__" : Str)) = false := by
  unfold okNm at h
  simp only [Bool.and_eq_true, Bool.not_eq_true'] at h
  exact h
theorem idx_get {N : List Str} {x : Str} {i : Nat} (h : idx N x = some i) : N[i]? = some x := by
  unfold idx at h
  rw [List.findIdx?_eq_some_iff_getElem] at h
  obtain ⟨hl, h1, _⟩ := h
  rw [List.getElem?_eq_getElem hl]
  simp only [beq_iff_eq] at h1
  rw [h1]
theorem vis_of {s2 : Scope} {x : Str} (h : visB s2 x = true) : Vis s2 x := by
  unfold visB at h
  split at h
  · exact .inl (by assumption)
  · exact .inr (.inl (by assumption))
  · exact .inr (.inr (by assumption))
  · cases h
theorem loc_of {s2 : Scope} {x : Str} (h : locB s2 x = true) : Loc s2 x := by
  unfold locB at h
  split at h
  · exact .inl (by assumption)
  · exact .inr (by assumption)
  · cases h
theorem gl_of {X : Cx} {x : Str} (h : glB X.env.scope x = true) : Gl X x := by
  unfold glB at h
  split at h
  · assumption
  · cases h

/-- the module's constants -/
def ConOk (c : Cc) (con : Str → Option PV) : Prop := ∀ x p, con x = some p → ∃ u v, c.mg x = some u ∧ RelV v u ∧ ∀ F, Rep c.K F v p
theorem se_name {T : Tb} {x : Str} {pos : Pos} (hc : ConOk c T.con) : SE c sc asg (.Name x pos) fun σ => if okNm x then (match idx c.N x with
      | some i => if visB sc x then (match σ[i]? with | some (some v) => sh v | _ => none) else none
      | none => if glB sc x then (T.con x).bind sh else none) else none := by
  by_cases h0 : okNm x = true
  · obtain ⟨d1, d2⟩ := okNm_d h0
    simp only [h0, if_true]
    cases hi : idx c.N x with
    | some i =>
      simp only
      by_cases hv : visB sc x = true
      · simp only [hv, if_true]
        refine ⟨tVar i, fun X ok => pe_var (by rw [ok.N]; exact idx_get hi) (by rw [ok.sc]; exact vis_of hv) d1 d2, fun σp y own h => ?_⟩
        cases e : σp[i]? with
        | none => simp [e] at h
        | some o =>
          cases o with
          | none => simp [e] at h
          | some v =>
            simp only [e] at h
            cases h
            refine EvS.e fun F H σ s vr Q q => ?_
            obtain ⟨u, h1, h2⟩ := vr.2 i _ e
            exact ⟨u, h1, q u F H (Grow.refl s) h2⟩
      · simp only [hv]
        exact SE.none
    | none =>
      simp only
      by_cases hg : glB sc x = true
      · simp only [hg, if_true]
        cases hx : T.con x with
        | none => exact SE.none
        | some p =>
          obtain ⟨u, v, h1, h2, h3⟩ := hc x p hx
          refine ⟨tC v, fun X ok => pe_glob (gl_of (by rw [ok.sc]; exact hg)) (by rw [ok.mg]; exact h1) h2 d1, fun σp y own h => ?_⟩
          cases h
          exact EvS.e fun F H σ s vr Q q => q v F H (Grow.refl s) (h3 F)
      · simp only [hg]
        exact SE.none
  · simp only [h0]
    exact SE.none

theorem big_line : big ≤ sizeLine := by rw [sizeLine_eq]; decide
theorem evEs_length {f : PySem.Expr → Out} : ∀ {es : List PySem.Expr} {xs : List PV}, evEs f es = some xs → xs.length = es.length
  | [], xs, h => by simp only [evEs] at h; cases h; rfl
  | e :: es, xs, h => by
    by_cases hs : ∃ a p, e = .Starred a p
    · obtain ⟨a, p, rfl⟩ := hs
      simp only [evEs] at h; cases h
    · have hs' : ∀ a p, e ≠ .Starred a p := fun a p q => hs ⟨a, p, q⟩
      have h' : ((f e).bind fun x => (evEs f es).map fun xs => x.1 :: xs) = some xs := by
        cases e <;> first | exact h | exact absurd rfl (hs' _ _)
      cases e1 : f e with
      | none => rw [e1] at h'; cases h'
      | some p =>
        rw [e1] at h'
        cases e2 : evEs f es with
        | none => rw [e2] at h'; cases h'
        | some ys =>
          rw [e2] at h'
          cases h'
          simp [evEs_length e2]
theorem se_tup {es : List PySem.Expr} {k : Nat} {pos : Pos} {f : Sl → Option (List PV)} (h : SA c sc asg es f) (hl : ∀ σp xs, f σp = some xs → xs.length = es.length) :
    SE c sc asg (.Tuple es k pos) fun σ => if es.length ≤ big then (f σ).bind fun xs => sh (.tup xs) else none := by
  by_cases hb : es.length ≤ big
  · simp only [hb, if_true]
    obtain ⟨t, h1, h2⟩ := h
    refine ⟨tTup t, fun X ok => pe_tup (h1 X ok), fun σp x own e => ?_⟩
    cases e1 : f σp with
    | none => simp [e1] at e
    | some xs =>
      simp only [e1, Option.bind_some] at e
      cases e
      refine EvS.e fun F H σ s vr Q q => ?_
      refine h2 σp xs e1 F H σ s vr _ fun vs F1 H1 g1 r1 => ?_
      refine ⟨by rw [r1.length, hl _ _ e1]; exact Nat.le_trans hb big_line, fun p hp => ?_⟩
      have g2 : Grow F1 H1 (upd F1 p (.tup vs)) (upd H1 p (.tup vs)) := Grow.laid g1.in_ hp
      exact q (.ref p) _ _ (g1.trans g2) (.tup (.inl (.inl upd_same)) (r1.mono g2.f))
  · simp only [hb]
    exact SE.none
theorem se_lst {es : List PySem.Expr} {pos : Pos} {f : Sl → Option (List PV)} (h : SA c sc asg es f) (hl : ∀ σp xs, f σp = some xs → xs.length = es.length) :
    SE c sc asg (.List es pos) fun σ => if es.length ≤ big then (f σ).bind fun xs => some (.lst xs, true) else none := by
  by_cases hb : es.length ≤ big
  · simp only [hb, if_true]
    obtain ⟨t, h1, h2⟩ := h
    refine ⟨tLst t, fun X ok => pe_lst (h1 X ok), fun σp x own e => ?_⟩
    cases e1 : f σp with
    | none => simp [e1] at e
    | some xs =>
      simp only [e1, Option.bind_some] at e
      cases e
      intro F H σ s vr Q q
      refine h2 σp xs e1 F H σ s vr _ fun vs F1 H1 g1 r1 => ?_
      refine ⟨by rw [r1.length, hl _ _ e1]; exact Nat.le_trans hb big_line, fun p hp => ?_⟩
      exact q (.ref p) _ _ (g1.trans (Grow.own g1.in_ hp)) (.mine (g1.h.free hp) (g1.in_.free hp) upd_same r1)
  · simp only [hb]
    exact SE.none
end
end Pv

/-! Part D: operators, comparisons, truth, items, slices -/
namespace Pv
open PySem L2 PySem.Spec PyProof.Rows

section
variable {X : Cx}
/-! ### readings that join several kinds -/
def CDivV (i j : Int) : Prop := j ≠ 0 ∧ j.natAbs.log2 < 9000
theorem op_fdivV : OpR X (binaryOp .FloorDiv) (rI CDivV fun i j => .int (i.fdiv j)) := opI fun i j _ _ _ _ _ hc q =>
  floordiv_int hc.1 q (.inl (PyProof.noPylong_of_log2 hc.2))
/-- list + list, both read -/
def rCatS (K : PySem.W.Frag) : R2 := fun x y H Q => ∃ l b xs zs, x = .ref l ∧ y = .ref b ∧ SqL K H l xs ∧ SqL K H b zs ∧ xs.length + zs.length ≤ sizeLine ∧ ∀ p, H p = none → Q (.ref p) (upd H p (.lst (xs ++ zs)))
theorem op_catS : OpR X (binaryOp .Add) (rCatS X.K) := by
  intro pins s σ H x y v u Q I rx ry h
  obtain ⟨l, b, xs, zs, rfl, rfl, hH, hB, hz, q⟩ := h
  cases rx
  cases ry
  obtain ⟨its, r, pl, z⟩ := I.list hH
  obtain ⟨its2, r2, pl2, z2⟩ := I.list hB
  obtain ⟨⟨cls, dd, data, sl⟩, n, ho, hc, hdd, hd⟩ := pl
  obtain ⟨⟨cls2, dd2, data2, sl2⟩, n2, ho2, hc2, hdd2, hd2⟩ := pl2
  simp only at hc hd hdd hc2 hd2 hdd2
  subst hc hd hc2 hd2
  have l1 := r.length
  have l2 := r2.length
  have e : its.toArray ++ its2.toArray = (its ++ its2).toArray := by simp
  refine concat_meets ⟨_, ho, rfl⟩ ⟨_, ho2, rfl⟩ noFill_list_add seq_list_add PySem.F.slot_list_add PySem.F.entry_list_add (PySem.F.args_list_add_2 _ _) (list_addW l b its.toArray its2.toArray n n2 dd dd2 sl sl2 (by simp; omega)) ⟨ho, ho2, ?_⟩
  rw [e]
  exact ⟨.ref _, _, I.lnew (t' := s.toks) (r.append r2) (by rw [List.length_append]; omega), rfl, q _ I.fresh⟩
def rStr : R2 := fun x y H Q => ∃ i j, x = .str i ∧ y = .str j ∧ i.length + j.length ≤ sizeLine ∧ Q (.str (i ++ j)) H
def rF : R2 := fun _ _ _ _ => False
theorem op_F {f : Value → Value → Sem Value} : OpR X f rF := fun _ _ _ _ _ _ _ _ _ _ _ _ h => h.elim
def rOr (r r' : R2) : R2 := fun x y H Q => r x y H Q ∨ r' x y H Q

def rB (K : PySem.W.Frag) : Operator → R2
  | .Add => rOr (rI0 fun i j => .int (i + j)) (rOr rStr (rOr (rCatS K) (rCatT K)))
  | .Sub => rI0 fun i j => .int (i - j)
  | .Mult => rI CMulW fun i j => .int (i * j)
  | .FloorDiv => rI CDivV fun i j => .int (i.fdiv j)
  | .Mod => rI (fun _ j => j ≠ 0) fun i j => .int (i.fmod j)
  | .Pow => rI CPow fun i j => .int (i ^ j.toNat)
  | _ => rF
theorem op_B (op : Operator) : OpR X (binaryOp op) (rB X.K op) := by
  cases op <;> first
    | exact op_F
    | exact OpR.or op_add (OpR.or op_add_str (OpR.or op_catS op_catT))
    | exact op_sub
    | exact op_mulW
    | exact op_fdivV
    | exact op_modN
    | exact op_pow
def rC (K : PySem.W.Frag) : CmpOp → R2
  | .Lt => rI0 fun i j => .bl (decide (i < j))
  | .LtE => rI0 fun i j => .bl (decide (i ≤ j))
  | .Gt => rI0 fun i j => .bl (decide (j < i))
  | .GtE => rI0 fun i j => .bl (decide (j ≤ i))
  | .Eq => rEqD K
  | .NotEq => rNeD K
  | .Is => fun x y H Q => y = .non ∧ Q (.bl (decide (x = .non))) H
  | .IsNot => fun x y H Q => y = .non ∧ Q (.bl (!decide (x = .non))) H
  | .In => rOr (rIn K false) (fun x y H Q => ∃ i j, x = .str i ∧ y = .str j ∧ Q (.bl (!(Builtin.Str.occurrences j i 0 j.length 1).isEmpty)) H)
  | .NotIn => rOr (rIn K true) (fun x y H Q => ∃ i j, x = .str i ∧ y = .str j ∧ Q (.bl (!(!(Builtin.Str.occurrences j i 0 j.length 1).isEmpty))) H)
theorem op_C (hu : X.A.units + 64 < cLine) (op : CmpOp) : OpR X (compareOp op) (rC X.K op) := by
  cases op with
  | Lt => exact op_lt
  | LtE => exact op_le
  | Gt => exact op_gt
  | GtE => exact op_ge
  | Eq => exact op_eqD hu
  | NotEq => exact op_neD hu
  | Is => exact op_isN
  | IsNot => exact op_notN
  | In => exact OpR.or op_in_seq op_in_str
  | NotIn => exact OpR.or op_notIn_seq L2.op_notIn_str
end

section
variable {K : PySem.W.Frag} {F H : Hp} {v u : V} {x y z : PV} {own : Bool}
theorem len_le {a b : Nat} (h : a + b ≤ big) : a + b ≤ sizeLine := Nat.le_trans h big_line
/-- an operator's reading, from what the evaluator says -/
theorem binop_ok {op : Operator} (h : binop op x y = some (z, own)) (s : Same F H) (rx : Rep K F v x) (ry : Rep K F u y) {Q : VK}
    (q : ∀ w F' H', Grow F H F' H' → Res K H F' H' w z own → Q w H') : rB K op v u H Q := by
  unfold binop at h
  split at h
  · rename_i i j
    cases h; cases rx; cases ry
    exact .inl ⟨i, j, rfl, rfl, q _ F H (Grow.refl s) (.of (.int _))⟩
  · rename_i a b
    split at h
    · rename_i hl
      cases h; cases rx; cases ry
      exact .inr (.inl ⟨a, b, rfl, rfl, len_le hl, q _ F H (Grow.refl s) (.of (.str _))⟩)
    · cases h
  · rename_i a b
    split at h
    · rename_i hl
      cases h
      obtain ⟨p, vs, rfl, h1, r1⟩ := rx.ofLst
      obtain ⟨p2, us, rfl, h2, r2⟩ := ry.ofLst
      refine .inr (.inr (.inl ⟨p, p2, vs, us, rfl, rfl, Same.sqL s h1, Same.sqL s h2, by rw [r1.length, r2.length]; exact len_le hl, fun l hl => ?_⟩))
      exact q _ _ _ (Grow.own s hl) (.mine hl (s.free hl) upd_same (r1.append r2))
    · cases h
  · rename_i a as b bs
    split at h
    · rename_i hl
      cases h
      obtain ⟨p, vs, rfl, h1, r1⟩ := rx.ofTup
      obtain ⟨p2, us, rfl, h2, r2⟩ := ry.ofTup
      have n1 : vs ≠ [] := fun e => by subst e; have := r1.length; simp at this
      have n2 : us ≠ [] := fun e => by subst e; have := r2.length; simp at this
      refine .inr (.inr (.inr ⟨p, p2, vs, us, rfl, rfl, Same.sqT s h1, Same.sqT s h2, n1, by rw [r1.length, r2.length]; exact len_le hl, fun e => absurd e n2, fun _ l hl => ?_⟩))
      have g := Grow.laid (o := .tup (vs ++ us)) s hl
      exact q _ _ _ g (.of (.tup (.inl (.inl upd_same)) ((r1.append r2).mono g.f)))
    · cases h
  · rename_i i j
    cases h; cases rx; cases ry
    exact ⟨i, j, rfl, rfl, q _ F H (Grow.refl s) (.of (.int _))⟩
  · rename_i i j
    split at h
    · rename_i hl
      cases h; cases rx; cases ry
      exact ⟨i, j, rfl, rfl, of_decide_eq_true (p := i.natAbs.log2 + j.natAbs.log2 < 1000000) hl, q _ F H (Grow.refl s) (.of (.int _))⟩
    · cases h
  · rename_i i j
    split at h
    · rename_i hl
      unfold divOk at hl
      rw [Bool.and_eq_true] at hl
      cases h; cases rx; cases ry
      exact ⟨i, j, rfl, rfl, ⟨of_decide_eq_true hl.1, of_decide_eq_true hl.2⟩, q _ F H (Grow.refl s) (.of (.int _))⟩
    · cases h
  · rename_i i j
    split at h
    · cases h
    · rename_i hl
      cases h; cases rx; cases ry
      exact ⟨i, j, rfl, rfl, hl, q _ F H (Grow.refl s) (.of (.int _))⟩
  · rename_i i j
    split at h
    · rename_i hl
      cases h; cases rx; cases ry
      exact ⟨i, j, rfl, rfl, ⟨hl.1, by omega, hl.2.2⟩, q _ F H (Grow.refl s) (.of (.int _))⟩
    · cases h
  · cases h

theorem flatP_ok {w : V} (h : flatP x = some w) (r : Rep K F v x) : v = w := by
  unfold flatP at h
  split at h <;> first
    | (cases h; cases r; rfl)
    | cases h
theorem flatPs_ok : ∀ {xs : List PV} {vs ws : List V}, flatPs xs = some ws → Reps K F vs xs → vs = ws
  | [], vs, ws, h, r => by simp only [flatPs] at h; cases h; cases r; rfl
  | x :: xs, vs, ws, h, r => by
    simp only [flatPs] at h
    cases e1 : flatP x with
    | none => simp [e1] at h
    | some w =>
      cases e2 : flatPs xs with
      | none => simp [e1, e2] at h
      | some us =>
        simp only [e1, e2, Option.bind_some, Option.map_some] at h
        cases h
        cases r with
        | cons r1 r2 => rw [flatP_ok e1 r1, flatPs_ok e2 r2]
theorem isIn_ok {b : Bool} {xs : List PV} {vs : List V} (h : isIn x xs = some b) (r : Rep K F v x) (rs : Reps K F vs xs) : flatV v = true ∧ vs.all flatV = true ∧ b = inV v vs := by
  unfold isIn at h
  cases e1 : flatP x with
  | none => simp [e1] at h
  | some w =>
    cases e2 : flatPs xs with
    | none => simp [e1, e2] at h
    | some us =>
      simp only [e1, e2, Option.bind_some] at h
      have a1 := flatP_ok e1 r
      have a2 := flatPs_ok e2 rs
      subst a1 a2
      split at h
      · rename_i hc
        rw [Bool.and_eq_true] at hc
        cases h
        exact ⟨hc.1, hc.2, rfl⟩
      · cases h
theorem eqD_ok {b : Bool} (h : eqD x y = some b) : SeqAt.shaped x.toD = true ∧ SeqAt.shaped y.toD = true ∧ b = PyData.eqv x.toD y.toD := by
  unfold eqD at h
  split at h
  · rename_i hc
    rw [Bool.and_eq_true] at hc
    cases h
    exact ⟨hc.1, hc.2, rfl⟩
  · cases h
theorem isNon_ok (r : Rep K F v x) (h : x ≠ .non) : decide (v = V.non) = false := by
  cases r <;> first | exact absurd rfl h | rfl
theorem cmp_ok {op : CmpOp} {b : Bool} (h : cmp op x y = some b) (s : Same F H) (rx : Rep K F v x) (ry : Rep K F u y) {Q : VK} (q : Q (.bl b) H) : rC K op v u H Q := by
  unfold cmp at h
  split at h
  · cases h; cases rx; cases ry; exact ⟨_, _, rfl, rfl, q⟩
  · cases h; cases rx; cases ry; exact ⟨_, _, rfl, rfl, q⟩
  · cases h; cases rx; cases ry; exact ⟨_, _, rfl, rfl, q⟩
  · cases h; cases rx; cases ry; exact ⟨_, _, rfl, rfl, q⟩
  · obtain ⟨h1, h2, rfl⟩ := eqD_ok h
    exact ⟨_, _, (rx.mono s).toD, (ry.mono s).toD, h1, h2, q⟩
  · cases e : eqD x y with
    | none => simp [e] at h
    | some k =>
      simp only [e, Option.map_some] at h
      cases h
      obtain ⟨h1, h2, rfl⟩ := eqD_ok e
      exact ⟨_, _, (rx.mono s).toD, (ry.mono s).toD, h1, h2, q⟩
  · cases h; cases rx; cases ry; exact ⟨rfl, q⟩
  · rename_i hn
    cases h; cases ry
    refine ⟨rfl, ?_⟩
    rw [isNon_ok rx (fun e => by subst e; simp at hn)]
    exact q
  · cases h; cases rx; cases ry; exact ⟨rfl, q⟩
  · rename_i hn
    cases h; cases ry
    refine ⟨rfl, ?_⟩
    rw [isNon_ok rx (fun e => by subst e; simp at hn)]
    exact q
  · obtain ⟨p, vs, rfl, h1, r1⟩ := ry.ofLst
    obtain ⟨f1, f2, rfl⟩ := isIn_ok h rx r1
    exact .inl ⟨p, vs, rfl, .inl (Same.sqL s h1), f1, f2, q⟩
  · obtain ⟨p, vs, rfl, h1, r1⟩ := ry.ofTup
    obtain ⟨f1, f2, rfl⟩ := isIn_ok h rx r1
    exact .inl ⟨p, vs, rfl, .inr (Same.sqT s h1), f1, f2, q⟩
  · rename_i xs
    cases e : isIn x xs with
    | none => simp [e] at h
    | some k =>
      simp only [e, Option.map_some] at h
      cases h
      obtain ⟨p, vs, rfl, h1, r1⟩ := ry.ofLst
      obtain ⟨f1, f2, rfl⟩ := isIn_ok e rx r1
      exact .inl ⟨p, vs, rfl, .inl (Same.sqL s h1), f1, f2, q⟩
  · rename_i xs
    cases e : isIn x xs with
    | none => simp [e] at h
    | some k =>
      simp only [e, Option.map_some] at h
      cases h
      obtain ⟨p, vs, rfl, h1, r1⟩ := ry.ofTup
      obtain ⟨f1, f2, rfl⟩ := isIn_ok e rx r1
      exact .inl ⟨p, vs, rfl, .inr (Same.sqT s h1), f1, f2, q⟩
  · cases h; cases rx; cases ry; exact .inr ⟨_, _, rfl, rfl, q⟩
  · cases h; cases rx; cases ry; exact .inr ⟨_, _, rfl, rfl, q⟩
  · cases h

theorem isEmpty_reps {vs : List V} {xs : List PV} (r : Reps K F vs xs) : vs.isEmpty = xs.isEmpty := by cases r <;> rfl
theorem truth_ok {b : Bool} (h : truth x = some b) (s : Same F H) (r : Rep K F v x) : TruV K v H b := by
  unfold truth at h
  split at h
  · cases h; cases r; rfl
  · cases h; cases r; rfl
  · cases h; cases r; rfl
  · split at h
    · rename_i hl
      cases h; cases r; exact ⟨Nat.le_trans hl big_line, rfl⟩
    · cases h
  · cases h
    obtain ⟨p, vs, rfl, h1, r1⟩ := r.ofLst
    exact .inl ⟨vs, Same.sqL s h1, by rw [isEmpty_reps r1]⟩
  · cases h
    obtain ⟨p, vs, rfl, h1, r1⟩ := r.ofTup
    exact .inr (.inl ⟨vs, Same.sqT s h1, by rw [isEmpty_reps r1]⟩)

theorem atI_reps {vs : List V} {xs : List PV} {i : Int} {y : PV} (r : Reps K F vs xs) (h : atI xs i = some y) : ∃ w, atI vs i = some w ∧ Rep K F w y := by
  unfold atI at h ⊢
  rw [r.length]
  cases e : ixN xs.length i with
  | none => simp [e] at h
  | some j =>
    simp only [e, Option.bind_some] at h ⊢
    exact r.get h
theorem getIx_ok (h : getIx x y = some (z, own)) (s : Same F H) (rx : Rep K F v x) (ry : Rep K F u y) {Q : VK} (q : ∀ w, Rep K F w z → Q w H) : rIx K v u H Q ∧ own = false := by
  unfold getIx at h
  split at h
  · rename_i xs i
    cases e : atI xs i with
    | none => simp [e] at h
    | some w =>
      simp only [e, Option.bind_some] at h
      cases h
      obtain ⟨p, vs, rfl, h1, r1⟩ := rx.ofLst
      cases ry
      obtain ⟨w', h2, r2⟩ := atI_reps r1 e
      exact ⟨.inl ⟨p, vs, i, w', rfl, rfl, Same.sqL s h1, h2, q _ r2⟩, rfl⟩
  · rename_i xs i
    cases e : atI xs i with
    | none => simp [e] at h
    | some w =>
      simp only [e, Option.bind_some] at h
      cases h
      obtain ⟨p, vs, rfl, h1, r1⟩ := rx.ofTup
      cases ry
      obtain ⟨w', h2, r2⟩ := atI_reps r1 e
      exact ⟨.inr (.inl ⟨p, vs, i, w', rfl, rfl, Same.sqT s h1, h2, q _ r2⟩), rfl⟩
  · rename_i z' i
    split at h
    · rename_i hl
      cases e : atI z'.cps.toList i with
      | none => simp [e] at h
      | some w =>
        simp only [e, Option.bind_some] at h
        cases h
        cases rx; cases ry
        exact ⟨.inr (.inr ⟨z', i, w, rfl, rfl, Nat.le_trans hl big_line, e, q _ (.str _)⟩), rfl⟩
    · cases h
  · cases h

def rSl (K : PySem.W.Frag) : V → Option Int → Option Int → Hp → VK → Prop := fun x lo hi H Q => rSlL K x lo hi H Q ∨ rSlT K x lo hi H Q
theorem sl_seq {X : Cx} : SlR X (rSl X.K) := SlR.or sl_list sl_tup
theorem getSl_ok {lo hi : Option Int} (h : getSl x lo hi = some (z, own)) (s : Same F H) (rx : Rep K F v x) {Q : VK} (q : ∀ w F' H', Grow F H F' H' → Res K H F' H' w z own → Q w H') : rSl K v lo hi H Q := by
  unfold getSl at h
  split at h
  · rename_i xs
    cases h
    obtain ⟨p, vs, rfl, h1, r1⟩ := rx.ofLst
    refine .inl ⟨p, vs, rfl, Same.sqL s h1, fun l hl => ?_⟩
    refine q _ _ _ (Grow.own s hl) (.mine hl (s.free hl) upd_same ?_)
    unfold cutV cutP
    rw [r1.length]
    exact (r1.drop _).take _
  · rename_i xs
    split at h
    · cases h
    · rename_i hc
      cases h
      obtain ⟨p, vs, rfl, h1, r1⟩ := rx.ofTup
      refine .inr ⟨p, vs, rfl, Same.sqT s h1, by rw [r1.length]; exact hc, fun l hl => ?_⟩
      have g := Grow.laid (o := .tup (cutV vs lo hi)) s hl
      have e : Reps K F (cutV vs lo hi) (cutP xs lo hi) := by
        unfold cutV cutP
        rw [r1.length]
        exact (r1.drop _).take _
      exact q _ _ _ g (.of (.tup (.inl (.inl upd_same)) (e.mono g.f)))
  · cases h
end
end Pv

/-! Part E: calls, comprehensions, all expressions -/
namespace Pv
open PySem L2 PySem.Spec PyProof.Rows

/-! ### calls of defs -/
/-- a def's promise by the evaluator's answer -/
def spOf (K : PySem.W.Frag) (n : Nat) (g : List PV → Option (PV × Bool)) : Sp := fun vs H Q _ => vs.length = n ∧ ∃ F xs x own, Same F H ∧ Reps K F vs xs ∧ g xs = some (x, own) ∧
  ∀ v F' H', Grow F H F' H' → Res K H F' H' v x own → Q v H'
/-- the defs stand behind the top and keep their promises -/
structure TabOk (c : Cc) (T : Tb) : Prop where
  con : ConOk c T.con
  pos : ∀ g n ds, T.dfl g n = some ds → ∃ f fd ps dvs us, c.mg g = some (.ref f) ∧ PySem.W.keepIn c.K (.ref f) = true ∧ FnOk c.P c.w c.K c.mg c.base CX0 c.d f fd ps (spOf c.K ps.length (T.raw g)) ∧ Binds c.K fd ps us ∧ Vals dvs us ∧
    (∀ F, Reps c.K F dvs ds) ∧ n + ds.length = ps.length
  key : ∀ g n ks, T.kwd g n ks = true → ∃ f fd ps g1 g2, c.mg g = some (.ref f) ∧ PySem.W.keepIn c.K (.ref f) = true ∧ FnOk c.P c.w c.K c.mg c.base CX0 c.d f fd ps (spOf c.K ps.length (T.raw g)) ∧ KBn c.K fd ps n ks g1 g2 ∧
    (∀ vs zs, g2 vs zs = vs ++ zs) ∧ n + ks.length = ps.length
  blt : ∀ x, isBlt x = true → c.mg x = none
  cls : ∀ x ty, tyNames.lookup x = some ty → c.mg x = none
  nd : c.N.Nodup

theorem plain_any {es : List PySem.Expr} {env : Env} {pos : Pos} (h : ∀ e ∈ es, ∀ a p, e ≠ .Starred a p) : (backTo pos (starEach es env)).any (·.1) = false := by
  induction es with
  | nil => rfl
  | cons e es ih =>
    rw [star_of (h e (List.mem_cons_self ..))]
    have := ih fun e' he => h e' (List.mem_cons_of_mem _ he)
    show ((false, _) :: backTo pos (starEach es env)).any (·.1) = false
    rw [List.any_cons, this]
    rfl
theorem noStar : ∀ {f : PySem.Expr → Out} {es : List PySem.Expr} {xs : List PV}, evEs f es = some xs → ∀ e ∈ es, ∀ a p, e ≠ .Starred a p
  | f, e :: es, xs, h, e', he, a, p => by
    rintro rfl
    rcases List.mem_cons.mp he with rfl | he
    · simp only [evEs] at h; cases h
    · by_cases hs : ∃ a p, e = .Starred a p
      · obtain ⟨a, p, rfl⟩ := hs
        simp only [evEs] at h; cases h
      · have hs' : ∀ a p, e ≠ .Starred a p := fun a p q => hs ⟨a, p, q⟩
        have h' : ((f e).bind fun x => (evEs f es).map fun xs => x.1 :: xs) = some xs := by
          cases e <;> first | exact h | exact absurd rfl (hs' _ _)
        cases e1 : f e with
        | none => rw [e1] at h'; cases h'
        | some q =>
          rw [e1] at h'
          cases e2 : evEs f es with
          | none => rw [e2] at h'; cases h'
          | some ys => exact noStar e2 _ he a p rfl
def starB (es : List PySem.Expr) : Bool := es.any fun e => match e with | .Starred _ _ => true | _ => false
theorem starB_no {es : List PySem.Expr} (h : starB es = false) : ∀ e ∈ es, ∀ a p, e ≠ .Starred a p := by
  rintro e he a p rfl
  unfold starB at h
  rw [List.any_eq_false] at h
  exact h _ he rfl
theorem starB_ev {f : PySem.Expr → Out} {es : List PySem.Expr} {xs : List PV} (h : evEs f es = some xs) : starB es = false := by
  unfold starB
  rw [List.any_eq_false]
  intro e he
  have := noStar h e he
  cases e <;> first | exact absurd rfl (this _ _) | simp

section
variable {c : Cc} {sc : Scope} {asg : Str → Bool} {T : Tb}
theorem ea_nil {K : PySem.W.Frag} {σp : Sl} : EvA K tNil σp [] := fun F H σ s vr Q q => q [] F H (Grow.refl s) .nil
theorem sa_nil : SA c sc asg [] fun _ => some [] := ⟨tNil, fun _ _ => pa_nil, fun σp xs h => by
  cases h
  intro F H σ s vr Q q
  exact q [] F H (Grow.refl s) .nil⟩
theorem call_ev {f : Str} {t : TA} {ps : List Str} {dvs : List V} {ds xs : List PV} {σp : Sl} {y : PV} {own : Bool} {E : XK} (a2 : EvA c.K t σp xs) (h6 : ∀ F, Reps c.K F dvs ds) (hl : xs.length + ds.length = ps.length)
    (e : T.raw f (xs ++ ds) = some (y, own)) : EvE c.K (tCall (spOf c.K ps.length (T.raw f)) dvs E t) σp y own := by
  intro F H σ s vr Q q
  refine a2 F H σ s vr _ fun vs F1 H1 g1 r1 => ?_
  refine ⟨?_, F1, xs ++ ds, y, own, g1.in_, r1.append (h6 F1), e, fun v F' H' g2 r2 => q v F' H' (g1.trans g2) (r2.mono g1.h)⟩
  rw [List.length_append, r1.length, (h6 F1).length]
  exact hl
theorem SE.map {e : PySem.Expr} {f g : Sl → Out} (h : SE c sc asg e f) (q : ∀ σ x own, g σ = some (x, own) → ∃ o, f σ = some (x, o) ∧ (own = true → o = true)) : SE c sc asg e g := by
  obtain ⟨t, a, b⟩ := h
  refine ⟨t, a, fun σp x own e => ?_⟩
  obtain ⟨o, e1, e2⟩ := q σp x own e
  cases own with
  | true => rw [e2 rfl] at e1; exact b σp x true e1
  | false => exact (b σp x o e1).s.e
theorem call_raw {f : Str} {xs : List PV} {x : PV} {own : Bool} (h : T.call f xs = some (x, own)) : ∃ o, T.raw f xs = some (x, o) ∧ (own = true → o = true) := by
  unfold Tb.call at h
  split at h
  · cases e : T.raw f xs with
    | none => simp [e, ownO] at h
    | some p =>
      obtain ⟨y, o⟩ := p
      rw [e] at h
      cases y <;> cases o <;> simp [ownO] at h
      obtain ⟨rfl, rfl⟩ := h
      exact ⟨true, rfl, fun _ => rfl⟩
  · cases e : T.raw f xs with
    | none => simp [e, fstO] at h
    | some p =>
      obtain ⟨y, o⟩ := p
      rw [e] at h
      simp [fstO] at h
      obtain ⟨rfl, rfl⟩ := h
      exact ⟨o, rfl, fun h => by cases h⟩
theorem se_call0 {f : Str} {fp pos : Pos} {es : List PySem.Expr} {ds : List PV} {g : Sl → Option (List PV)} (ok : TabOk c T) (h0 : okNm f = true) (hg : glB sc f = true) (hd : T.dfl f es.length = some ds) (h : SA c sc asg es g)
    (hl : ∀ σp xs, g σp = some xs → xs.length = es.length ∧ starB es = false) : SE c sc asg (.Call (.Name f fp) es [] pos) fun σ => (g σ).bind fun xs => T.raw f (xs ++ ds) := by
  obtain ⟨fa, fd, ps, dvs, us, h1, h2, h3, h4, h5, h6, h7⟩ := ok.pos f es.length ds hd
  obtain ⟨t, a1, a2⟩ := h
  have d0 := (okNm_d h0).1
  have base : ∀ X, CxOk c sc asg X → FnOk X.prog X.w X.K X.mg X.base CX0 c.d fa fd ps (spOf c.K ps.length (T.raw f)) ∧ Gl X f ∧ X.mg f = some (.ref fa) ∧ PySem.W.keepIn X.K (.ref fa) = true ∧ Binds X.K fd ps us := fun X x =>
    ⟨by rw [x.P, x.w, x.K, x.mg, x.base]; exact h3, gl_of (by rw [x.sc]; exact hg), by rw [x.mg]; exact h1, by rw [x.K]; exact h2, by rw [x.K]; exact h4⟩
  cases es with
  | nil =>
    refine ⟨tCall (spOf c.K ps.length (T.raw f)) dvs E0 tNil, fun X x => ?_, fun σp y own e => ?_⟩
    · obtain ⟨F, G, M, KK, B⟩ := base X x
      exact pe_call0 F x.rm G M KK B h5 pass0 d0
    · cases e1 : g σp with
      | none => simp [e1] at e
      | some xs =>
        simp only [e1, Option.bind_some] at e
        have hx : xs = [] := List.eq_nil_of_length_eq_zero (hl _ _ e1).1
        subst hx
        exact call_ev (xs := []) ea_nil h6 (by rw [← h7]; rfl) e
  | cons e0 es =>
    by_cases hs : starB (e0 :: es) = false
    · refine ⟨tCall (spOf c.K ps.length (T.raw f)) dvs E0 t, fun X x => ?_, fun σp y own e => ?_⟩
      · obtain ⟨F, G, M, KK, B⟩ := base X x
        exact pe_call F x.rm G M KK B h5 pass0 (a1 X x) d0 (star_of (starB_no hs e0 (List.mem_cons_self ..))) (plain_any fun e' he => starB_no hs e' (List.mem_cons_of_mem _ he))
      · cases e1 : g σp with
        | none => simp [e1] at e
        | some xs =>
          simp only [e1, Option.bind_some] at e
          exact call_ev (a2 σp xs e1) h6 (by rw [(hl _ _ e1).1]; exact h7) e
    · refine ⟨tF, fun _ _ => pe_F, fun σp y own e => ?_⟩
      cases e1 : g σp with
      | none => simp [e1] at e
      | some xs => exact absurd (hl _ _ e1).2 hs
theorem se_call {f : Str} {fp pos : Pos} {es : List PySem.Expr} {ds : List PV} {g : Sl → Option (List PV)} (ok : TabOk c T) (h0 : okNm f = true) (hg : glB sc f = true) (hd : T.dfl f es.length = some ds) (h : SA c sc asg es g)
    (hl : ∀ σp xs, g σp = some xs → xs.length = es.length ∧ starB es = false) : SE c sc asg (.Call (.Name f fp) es [] pos) fun σ => (g σ).bind fun xs => T.call f (xs ++ ds) :=
  (se_call0 ok h0 hg hd h hl).map fun σ x own e => by
    obtain ⟨xs, e1, e2⟩ := Option.bind_eq_some_iff.mp e
    obtain ⟨o, e3, e4⟩ := call_raw e2
    exact ⟨o, by rw [e1]; exact e3, e4⟩
/-- f(e, .., k = v) -/
theorem se_callK0 {f k : Str} {fp pos kp : Pos} {e0 v : PySem.Expr} {es : List PySem.Expr} {g : Sl → Option (List PV)} {gv : Sl → Out} (ok : TabOk c T) (h0 : okNm f = true) (hg : glB sc f = true) (hd : T.kwd f (e0 :: es).length [k] = true) (h : SA c sc asg (e0 :: es) g) (hv : SE c sc asg v gv)
    (hl : ∀ σp xs, g σp = some xs → xs.length = (e0 :: es).length ∧ starB (e0 :: es) = false) : SE c sc asg (.Call (.Name f fp) (e0 :: es) [⟨some k, v, kp⟩] pos) fun σ => (g σ).bind fun xs => (gv σ).bind fun y => T.raw f (xs ++ [y.1]) := by
  obtain ⟨fa, fd, ps, g1, g2, h1, h2, h3, h4, h5, h6⟩ := ok.key f (e0 :: es).length [k] hd
  obtain ⟨t, a1, a2⟩ := h
  obtain ⟨tv, b1, b2⟩ := hv
  have d0 := (okNm_d h0).1
  by_cases hs : starB (e0 :: es) = false
  · refine ⟨tCallN (e0 :: es).length [k].length (spOf c.K ps.length (T.raw f)) g2 E0 t (tCons tv tNil), fun X x => ?_, fun σp y own e => ?_⟩
    · have F : FnOk X.prog X.w X.K X.mg X.base CX0 c.d fa fd ps (spOf c.K ps.length (T.raw f)) := by rw [x.P, x.w, x.K, x.mg, x.base]; exact h3
      have B : KBn X.K fd ps (e0 :: es).length [k] g1 g2 := by rw [x.K]; exact h4
      refine pe_callN F x.rm (gl_of (by rw [x.sc]; exact hg)) (by rw [x.mg]; exact h1) (by rw [x.K]; exact h2) B pass0 (a1 X x) (pk_cons (b1 X x) pk_nil) rfl rfl d0 (star_of (starB_no hs e0 (List.mem_cons_self ..))) ?_
      rw [plain_any (starB_no hs)]
      rfl
    · cases e1 : g σp with
      | none => simp [e1] at e
      | some xs =>
        cases e2 : gv σp with
        | none => simp [e1, e2] at e
        | some z =>
          simp only [e1, e2, Option.bind_some] at e
          intro F H σ s vr Q q
          refine a2 σp xs e1 F H σ s vr _ fun vs F1 H1 g1 r1 => ?_
          refine (b2 σp z.1 z.2 e2).s F1 H1 σ g1.in_ (vr.mono g1.f) _ fun w F2 H2 g2' r2 => ?_
          refine ⟨by rw [r1.length]; exact (hl _ _ e1).1, rfl, ?_⟩
          rw [h5]
          refine ⟨?_, F2, xs ++ [z.1], y, own, g2'.in_, (r1.mono g2'.f).append (.cons r2 .nil), e, fun v F' H' g3 r3 => q v F' H' ((g1.trans g2').trans g3) (r3.mono (g1.h.trans g2'.h))⟩
          rw [List.length_append, r1.length, (hl _ _ e1).1]
          exact h6
  · refine ⟨tF, fun _ _ => pe_F, fun σp y own e => ?_⟩
    cases e1 : g σp with
    | none => simp [e1] at e
    | some xs => exact absurd (hl _ _ e1).2 hs

theorem se_callK {f k : Str} {fp pos kp : Pos} {e0 v : PySem.Expr} {es : List PySem.Expr} {g : Sl → Option (List PV)} {gv : Sl → Out} (ok : TabOk c T) (h0 : okNm f = true) (hg : glB sc f = true) (hd : T.kwd f (e0 :: es).length [k] = true) (h : SA c sc asg (e0 :: es) g) (hv : SE c sc asg v gv)
    (hl : ∀ σp xs, g σp = some xs → xs.length = (e0 :: es).length ∧ starB (e0 :: es) = false) : SE c sc asg (.Call (.Name f fp) (e0 :: es) [⟨some k, v, kp⟩] pos) fun σ => (g σ).bind fun xs => (gv σ).bind fun y => T.call f (xs ++ [y.1]) :=
  (se_callK0 ok h0 hg hd h hv hl).map fun σ x own e => by
    obtain ⟨xs, e1, e2⟩ := Option.bind_eq_some_iff.mp e
    obtain ⟨y, e5, e2⟩ := Option.bind_eq_some_iff.mp e2
    obtain ⟨o, e3, e4⟩ := call_raw e2
    exact ⟨o, by rw [e1, e5]; exact e3, e4⟩
/-! ### calls of built-ins -/
def rLen (K : PySem.W.Frag) : List V → Hp → VK → Prop := fun xs H Q => (∃ p ys, xs = [.ref p] ∧ (SqL K H p ys ∨ SqT K H p ys) ∧ Q (.int ys.length) H) ∨ (∃ z, xs = [.str z] ∧ z.length ≤ sizeLine ∧ Q (.int z.length) H)
theorem cr_len {X : Cx} : CallR X (.builtin "len") (rLen X.K) := CallR.or call_len_seq call_len_str
inductive BR (K : PySem.W.Frag) : Str → (Value) → (List V → Hp → VK → Prop) → Prop
  | len : BR K "len" (.builtin "len") (rLen K)
  | abs : BR K "abs" (.builtin "abs") (fun xs H Q => ∃ i, xs = [.int i] ∧ Q (.int (if i < 0 then -i else i)) H)
  | int : BR K "int" (.type "int") (fun xs H Q => (∃ i, xs = [.int i] ∧ Q (.int i) H) ∨ ∃ k, xs = [.bl k] ∧ Q (.int (if k then 1 else 0)) H)
  | list : BR K "list" (.type "list") (fun xs H Q => ∃ p ys, xs = [.ref p] ∧ (SqL K H p ys ∨ SqT K H p ys) ∧ ∀ l, H l = none → Q (.ref l) (upd H l (.lst ys)))
  | tuple : BR K "tuple" (.type "tuple") (fun xs H Q => ∃ p ys, xs = [.ref p] ∧ ((SqL K H p ys ∧ ∀ l, H l = none → Q (.ref l) (upd H l (.tup ys))) ∨ (SqT K H p ys ∧ Q (.ref p) H)))
  | str : BR K "str" (.type "str") (fun xs H Q => ∃ i, xs = [.int i] ∧ i.natAbs.log2 < 1920 ∧ Q (.str (toString i)) H)
theorem BR.pe {X : Cx} {f : Str} {b : Value} {r : List V → Hp → VK → Prop} {fp pos : Pos} {e0 : PySem.Expr} {es : List PySem.Expr} {t : TA} (h : BR X.K f b r) (hg : Gl X f) (hm : X.mg f = none) (ha : PA X (e0 :: es) t)
    (he : starEach (e0 :: es) X.env = (false, eval e0 X.env) :: starEach es X.env) (hpl : (backTo pos (starEach es X.env)).any (·.1) = false) : PE X (.Call (.Name f fp) (e0 :: es) [] pos) (tCB r t) := by
  cases h with
  | len => exact pe_callB cr_len hg hm PySem.boot_len ha (by decide +kernel) (by decide +kernel) he hpl
  | abs => exact pe_callB call_abs hg hm (by decide +kernel) ha (by decide +kernel) (by decide +kernel) he hpl
  | int => exact pe_callTy call_int1 hg hm (by decide +kernel) ha (by decide +kernel) (by decide +kernel) he hpl
  | list => exact pe_callTy call_list_of hg hm (by decide +kernel) ha (by decide +kernel) (by decide +kernel) he hpl
  | tuple => exact pe_callTy call_tuple_of hg hm (by decide +kernel) ha (by decide +kernel) (by decide +kernel) he hpl
  | str => exact pe_callTy call_str_int hg hm (by decide +kernel) ha (by decide +kernel) (by decide +kernel) he hpl
theorem blt_rule {K : PySem.W.Frag} {f : Str} {xs : List PV} {z : PV} {own : Bool} (h : blt f xs = some (z, own)) : ∃ b r, BR K f b r := by
  unfold blt at h
  split at h; · subst_vars; exact ⟨_, _, .len⟩
  split at h; · subst_vars; exact ⟨_, _, .abs⟩
  split at h; · subst_vars; exact ⟨_, _, .int⟩
  split at h; · subst_vars; exact ⟨_, _, .list⟩
  split at h; · subst_vars; exact ⟨_, _, .tuple⟩
  split at h; · subst_vars; exact ⟨_, _, .str⟩
  cases h
theorem blt_ok {K : PySem.W.Frag} {F H : Hp} {f : Str} {xs : List PV} {vs : List V} {z : PV} {own : Bool} {b : Value} {r : List V → Hp → VK → Prop} (hb : BR K f b r) (h : blt f xs = some (z, own)) (s : Same F H) (rs : Reps K F vs xs) {Q : VK}
    (q : ∀ w F' H', Grow F H F' H' → Res K H F' H' w z own → Q w H') : r vs H Q := by
  cases hb with
  | len =>
    unfold blt at h
    rw [if_pos rfl] at h
    split at h
    · cases h; cases rs with | cons r1 r2 => cases r2; obtain ⟨p, us, rfl, h1, r1⟩ := r1.ofLst; exact .inl ⟨p, us, rfl, .inl (Same.sqL s h1), by rw [r1.length]; exact q _ F H (Grow.refl s) (.of (.int _))⟩
    · cases h; cases rs with | cons r1 r2 => cases r2; obtain ⟨p, us, rfl, h1, r1⟩ := r1.ofTup; exact .inl ⟨p, us, rfl, .inr (Same.sqT s h1), by rw [r1.length]; exact q _ F H (Grow.refl s) (.of (.int _))⟩
    · split at h
      · rename_i hl
        cases h; cases rs with | cons r1 r2 => cases r2; cases r1; exact .inr ⟨_, rfl, Nat.le_trans hl big_line, q _ F H (Grow.refl s) (.of (.int _))⟩
      · cases h
    · cases h
  | abs =>
    unfold blt at h
    rw [if_neg (by decide +kernel), if_pos rfl] at h
    split at h
    · cases h; cases rs with | cons r1 r2 => cases r2; cases r1; exact ⟨_, rfl, q _ F H (Grow.refl s) (.of (.int _))⟩
    · cases h
  | int =>
    unfold blt at h
    rw [if_neg (by decide +kernel), if_neg (by decide +kernel), if_pos rfl] at h
    split at h
    · cases h; cases rs with | cons r1 r2 => cases r2; cases r1; exact .inl ⟨_, rfl, q _ F H (Grow.refl s) (.of (.int _))⟩
    · cases h; cases rs with | cons r1 r2 => cases r2; cases r1; exact .inr ⟨_, rfl, q _ F H (Grow.refl s) (.of (.int _))⟩
    · cases h
  | list =>
    unfold blt at h
    rw [if_neg (by decide +kernel), if_neg (by decide +kernel), if_neg (by decide +kernel), if_pos rfl] at h
    split at h
    · cases h; cases rs with | cons r1 r2 => cases r2; obtain ⟨p, us, rfl, h1, r1⟩ := r1.ofLst; exact ⟨p, us, rfl, .inl (Same.sqL s h1), fun l hl => q _ _ _ (Grow.own s hl) (.mine hl (s.free hl) upd_same r1)⟩
    · cases h; cases rs with | cons r1 r2 => cases r2; obtain ⟨p, us, rfl, h1, r1⟩ := r1.ofTup; exact ⟨p, us, rfl, .inr (Same.sqT s h1), fun l hl => q _ _ _ (Grow.own s hl) (.mine hl (s.free hl) upd_same r1)⟩
    · cases h
  | tuple =>
    unfold blt at h
    rw [if_neg (by decide +kernel), if_neg (by decide +kernel), if_neg (by decide +kernel), if_neg (by decide +kernel), if_pos rfl] at h
    split at h
    · cases h; cases rs with | cons r1 r2 => cases r2; obtain ⟨p, us, rfl, h1, r1⟩ := r1.ofLst; exact ⟨p, us, rfl, .inl ⟨Same.sqL s h1, fun l hl => by
        have g := Grow.laid (o := .tup us) s hl
        exact q _ _ _ g (.of (.tup (.inl (.inl upd_same)) (r1.mono g.f)))⟩⟩
    · cases h; cases rs with | cons r1 r2 => cases r2; obtain ⟨p, us, rfl, h1, r1⟩ := r1.ofTup; exact ⟨p, us, rfl, .inr ⟨Same.sqT s h1, q _ F H (Grow.refl s) (.of (.tup h1 r1))⟩⟩
    · cases h
  | str =>
    unfold blt at h
    rw [if_neg (by decide +kernel), if_neg (by decide +kernel), if_neg (by decide +kernel), if_neg (by decide +kernel), if_neg (by decide +kernel), if_pos rfl] at h
    split at h
    · split at h
      · rename_i hl
        cases h; cases rs with | cons r1 r2 => cases r2; cases r1; exact ⟨_, rfl, hl, q _ F H (Grow.refl s) (.of (.str _))⟩
      · cases h
    · cases h
theorem se_blt0 {f : Str} {fp pos : Pos} {e0 : PySem.Expr} {es : List PySem.Expr} {g : Sl → Option (List PV)} (ok : TabOk c T) (hb : isBlt f = true) (hg : glB sc f = true) (h : SA c sc asg (e0 :: es) g)
    (hl : ∀ σp xs, g σp = some xs → starB (e0 :: es) = false) : SE c sc asg (.Call (.Name f fp) (e0 :: es) [] pos) fun σ => (g σ).bind fun xs => blt f xs := by
  by_cases hr : ∃ b r, BR c.K f b r
  · obtain ⟨b, r, hr⟩ := hr
    obtain ⟨t, a1, a2⟩ := h
    by_cases hs : starB (e0 :: es) = false
    · refine ⟨tCB r t, fun X x => ?_, fun σp y own e => ?_⟩
      · exact BR.pe (by rw [x.K]; exact hr) (gl_of (by rw [x.sc]; exact hg)) (by rw [x.mg]; exact ok.blt f hb) (a1 X x) (star_of (starB_no hs e0 (List.mem_cons_self ..))) (plain_any fun e' he => starB_no hs e' (List.mem_cons_of_mem _ he))
      · cases e1 : g σp with
        | none => simp [e1] at e
        | some xs =>
          simp only [e1, Option.bind_some] at e
          intro F H σ s vr Q q
          refine a2 σp xs e1 F H σ s vr _ fun vs F1 H1 g1 r1 => ?_
          exact blt_ok hr e g1.in_ r1 fun w F' H' g2 r2 => q w F' H' (g1.trans g2) (r2.mono g1.h)
    · refine ⟨tF, fun _ _ => pe_F, fun σp y own e => ?_⟩
      cases e1 : g σp with
      | none => simp [e1] at e
      | some xs => exact absurd (hl _ _ e1) hs
  · refine ⟨tF, fun _ _ => pe_F, fun σp y own e => ?_⟩
    cases e1 : g σp with
    | none => simp [e1] at e
    | some xs =>
      simp only [e1, Option.bind_some] at e
      exact absurd (blt_rule e) hr
theorem bltV_raw {f : Str} {xs : List PV} {x : PV} {own : Bool} (h : bltV f xs = some (x, own)) : ∃ o, blt f xs = some (x, o) ∧ (own = true → o = true) := by
  unfold bltV at h
  split at h
  · rename_i hf
    subst hf
    refine ⟨own, ?_, fun h => h⟩
    unfold blt
    rw [if_neg (by decide +kernel), if_neg (by decide +kernel), if_neg (by decide +kernel), if_pos rfl]
    exact h
  · cases e : blt f xs with
    | none => simp [e] at h
    | some p =>
      simp [e, sh] at h
      obtain ⟨rfl, rfl⟩ := h
      exact ⟨p.2, rfl, fun h => by cases h⟩
theorem se_blt {f : Str} {fp pos : Pos} {e0 : PySem.Expr} {es : List PySem.Expr} {g : Sl → Option (List PV)} (ok : TabOk c T) (hb : isBlt f = true) (hg : glB sc f = true) (h : SA c sc asg (e0 :: es) g)
    (hl : ∀ σp xs, g σp = some xs → starB (e0 :: es) = false) : SE c sc asg (.Call (.Name f fp) (e0 :: es) [] pos) fun σ => (g σ).bind fun xs => bltV f xs :=
  (se_blt0 ok hb hg h hl).map fun σ x own e => by
    obtain ⟨xs, e1, e2⟩ := Option.bind_eq_some_iff.mp e
    obtain ⟨o, e3, e4⟩ := bltV_raw e2
    exact ⟨o, by rw [e1]; exact e3, e4⟩
end
end Pv

/-! Part F: isinstance, what is walked, comprehensions -/
namespace Pv
open PySem L2 PySem.Spec PyProof.Rows

section
variable {c : Cc} {sc : Scope} {asg : Str → Bool} {T : Tb}
theorem tyX_of {K : PySem.W.Frag} {F H : Hp} {v : V} {x : PV} {ty : String} {b : Bool} (h : clsIs ty x = some b) (s : Same F H) (r : Rep K F v x) : ∃ t : String, TyX K H v (.type t) ∧ kitB t ty = some b := by
  unfold clsIs at h
  split at h
  · cases r; exact ⟨_, .base .non, h⟩
  · cases r; exact ⟨_, .base (.bl _), h⟩
  · cases r; exact ⟨_, .base (.int _), h⟩
  · cases r; exact ⟨_, .base (.str _), h⟩
  · obtain ⟨p, vs, rfl, h1, r1⟩ := r.ofTup
    refine ⟨"tuple", ?_, h⟩
    rcases Same.sqT s h1 with (h2 | ⟨o, h2⟩) | ⟨o, its, n, h2, h3, h4⟩
    · exact .base (.tup h2)
    · exact .fTuple h2
    · exact .kTuple h2 h3
  · obtain ⟨p, vs, rfl, h1, r1⟩ := r.ofLst
    refine ⟨"list", ?_, h⟩
    rcases Same.sqL s h1 with (h2 | ⟨o, h2⟩) | ⟨o, its, n, h2, h3, h4⟩
    · exact .base (.lst h2)
    · exact .base (.frz h2)
    · exact .kList h2 h3
theorem isi_boot : bootBuiltins ("isinstance" : Str) = some (.builtin "isinstance") := by decide +kernel
theorem ty_boot {x : Str} {ty : String} (h : tyNames.lookup x = some ty) : bootBuiltins x = some (.type ty) ∧ x ≠ "__name__" ∧ (x == ("__debug__" : Str)) = false := by
  have hm : (x, ty) ∈ tyNames := PySem.mem_of_lookup h
  have all : tyNames.all (fun p => decide (bootBuiltins p.1 = some (.type p.2)) && decide (p.1 ≠ ("__name__" : Str)) && (decide ((p.1 == ("__debug__" : Str)) = false))) = true := by decide +kernel
  have := List.all_eq_true.mp all _ hm
  simp only [Bool.and_eq_true, decide_eq_true_eq] at this
  exact ⟨this.1.1, this.1.2, this.2⟩
theorem se_isi {fp tp pos : Pos} {a : PySem.Expr} {t : Str} {ty : String} {g : Sl → Out} (ok : TabOk c T) (hg : glB sc "isinstance" = true) (ht : glB sc t = true) (hy : tyNames.lookup t = some ty) (h : SE c sc asg a g) (h0 : ∀ e p, a = .Starred e p → ∀ σ, g σ = none) :
    SE c sc asg (.Call (.Name "isinstance" fp) [a, .Name t tp] [] pos) fun σ => (g σ).bind fun x => (clsIs ty x.1).bind fun b => sh (.bl b) := by
  obtain ⟨ta, a1, a2⟩ := h
  obtain ⟨b1, b2, b3⟩ := ty_boot hy
  by_cases hs : ∃ e p, a = .Starred e p
  · obtain ⟨e, p, rfl⟩ := hs
    refine ⟨tF, fun _ _ => pe_F, fun σp y own e' => ?_⟩
    simp [h0 e p rfl] at e'
  · have hs' : ∀ e p, a ≠ .Starred e p := fun e p q => hs ⟨e, p, q⟩
    refine ⟨tCB (rIsi c.K) (tCons ta (tCons (tC (.ty ty)) tNil)), fun X x => ?_, fun σp y own e => ?_⟩
    · have hc : CallR X (.builtin "isinstance") (rIsi c.K) := by rw [← x.K]; exact call_isi
      exact pe_callB hc (gl_of (by rw [x.sc]; exact hg)) (by rw [x.mg]; exact ok.blt _ (by decide +kernel)) isi_boot
        (pa_cons (a1 X x) (pa_cons (pe_bltn (v := .ty ty) (gl_of (by rw [x.sc]; exact ht)) (by rw [x.mg]; exact ok.cls _ _ hy) b1 rfl b2 b3) pa_nil) (star_of hs')) (by decide +kernel) (by decide +kernel) (star_of hs')
    · cases e1 : g σp with
      | none => simp [e1] at e
      | some p =>
        obtain ⟨x, o⟩ := p
        cases e2 : clsIs ty x with
        | none => simp [e1, e2] at e
        | some b =>
          simp only [e1, e2, Option.bind_some] at e
          cases e
          refine EvS.e fun F H σ s vr Q q => ?_
          refine (a2 σp x o e1).s F H σ s vr _ fun v F1 H1 g1 r1 => ?_
          obtain ⟨t', h1, h2⟩ := tyX_of e2 g1.in_ r1
          exact ⟨v, .ty ty, .type t', .type ty, b, rfl, .ty ty, h1, kit_ty h2, q _ F1 H1 g1 (.bl b)⟩

/-! ### what is walked -/
def iSeq (K : PySem.W.Frag) (tl : TE) : TI := fun σ H R => tl σ H fun x H1 => ∃ a, x = .ref a ∧ (((∃ xs, SqL K H1 a xs) ∧ R (Itl K a) H1) ∨ ((∃ xs, SqT K H1 a xs) ∧ R (Itt K a) H1))
theorem pi_seq {X : Cx} {tg l : PySem.Expr} {tl : TE} (hl : PE X l tl) : PI X tg l (iSeq X.K tl) := by
  refine ⟨fun pins s σ H R I h => ?_⟩
  refine thn (hl.run pins s σ H _ I h) fun v s1 ⟨x, H1, I1, r1, q1⟩ => ?_
  obtain ⟨a, e, q⟩ := q1
  subst e
  cases r1
  rcases q with ⟨⟨xs, hq⟩, q⟩ | ⟨⟨xs, hq⟩, q⟩
  · obtain ⟨its, rv, p, hz⟩ := I1.list hq
    refine wpAny_pyIter_list p.isList ?_
    refine ⟨s1.heap.objs.size, [s1.heap.objs.size], _, _, H1, rfl, I1.kept (t' := s1.toks) fun b o e => Heap.get?_push_of_some _ e, turn_list a _, ⟨_, Heap.get?_push_size _ rfl, rfl, rfl⟩, fun b hb => ?_, q⟩
    have e : b = s1.heap.objs.size := by simpa using hb
    subst e
    exact I1.fpOk (Nat.le_refl _) (I1.hok.fresh (Nat.le_refl _))
  · obtain ⟨its, rv, p, hz⟩ := I1.tuple hq
    refine wpAny_pyIter_tuple (show s1.heap.IsTuple a its.toArray from p) ?_
    refine ⟨s1.heap.objs.size, [s1.heap.objs.size], _, _, H1, rfl, I1.kept (t' := s1.toks) fun b o e => Heap.get?_push_of_some _ e, turn_tuple a _, ⟨_, Heap.get?_push_size _ rfl, rfl, rfl⟩, fun b hb => ?_, q⟩
    have e : b = s1.heap.objs.size := by simpa using hb
    subst e
    exact I1.fpOk (Nat.le_refl _) (I1.hok.fresh (Nat.le_refl _))
theorem itok_l {K : PySem.W.Frag} {F : Hp} {a : Addr} {vs : List V} (h : SqL K F a vs) : ItOk (Itl K a) F vs := fun H i s =>
  ⟨fun hi => ⟨⟨vs, vs[i], Same.sqL s h, by simp [hi]⟩, fun x H' y => ⟨y.1, y.2 vs (Same.sqL s h)⟩⟩, fun hi => ⟨vs, Same.sqL s h, hi⟩⟩
theorem itok_t {K : PySem.W.Frag} {F : Hp} {a : Addr} {vs : List V} (h : SqT K F a vs) : ItOk (Itt K a) F vs := fun H i s =>
  ⟨fun hi => ⟨⟨vs, vs[i], Same.sqT s h, by simp [hi]⟩, fun x H' y => ⟨y.1, y.2 vs (Same.sqT s h)⟩⟩, fun hi => ⟨vs, Same.sqT s h, hi⟩⟩
def vInts (lo : Int) : Nat → List V
  | 0 => []
  | n + 1 => .int lo :: vInts (lo + 1) n
theorem vInts_len : ∀ (lo : Int) (n : Nat), (vInts lo n).length = n
  | _, 0 => rfl
  | lo, n + 1 => by show (vInts (lo + 1) n).length + 1 = n + 1; rw [vInts_len]
theorem vInts_get : ∀ (n : Nat) (lo : Int) (i : Nat), i < n → (vInts lo n)[i]? = some (.int (lo + i))
  | n + 1, lo, 0, _ => by simp [vInts]
  | n + 1, lo, i + 1, h => by
    show (vInts (lo + 1) n)[i]? = _
    rw [vInts_get n (lo + 1) i (by omega)]
    congr 2
    omega
theorem vInts_reps {K : PySem.W.Frag} {F : Hp} : ∀ (n : Nat) (lo : Int), Reps K F (vInts lo n) (intsFrom lo n)
  | 0, _ => .nil
  | n + 1, lo => .cons (.int lo) (vInts_reps n (lo + 1))
theorem itok_r {F : Hp} {lo : Int} {n : Nat} : ItOk (Itr lo n) F (vInts lo n) := fun H i s => by
  rw [vInts_len]
  exact ⟨fun hi => ⟨hi, fun x H' y => ⟨y.1, by rw [vInts_get n lo i hi, y.2]⟩⟩, fun hi => hi⟩
theorem si_seq {e : PySem.Expr} {g : Sl → Out} (h : SE c sc asg e g) : SI c sc asg e fun σ => (g σ).bind fun x => seqOf x.1 := fun tg => by
  obtain ⟨t, a1, a2⟩ := h
  refine ⟨iSeq c.K t, fun X x => by rw [← x.K]; exact pi_seq (a1 X x), fun σp xs e => ?_⟩
  cases e1 : g σp with
  | none => simp [e1] at e
  | some p =>
    obtain ⟨x, o⟩ := p
    simp only [e1, Option.bind_some] at e
    intro F H σ s vr R q
    refine (a2 σp x o e1).s F H σ s vr _ fun v F1 H1 g1 r1 => ?_
    unfold seqOf at e
    split at e
    · split at e
      · cases e
        obtain ⟨p, vs, rfl, h1, r1⟩ := r1.ofLst
        exact ⟨p, rfl, .inl ⟨⟨vs, Same.sqL g1.in_ h1⟩, q _ vs F1 H1 g1 r1 (itok_l h1)⟩⟩
      · cases e
    · split at e
      · cases e
        obtain ⟨p, vs, rfl, h1, r1⟩ := r1.ofTup
        exact ⟨p, rfl, .inr ⟨⟨vs, Same.sqT g1.in_ h1⟩, q _ vs F1 H1 g1 r1 (itok_t h1)⟩⟩
      · cases e
    · cases e
theorem small62_of {i : Int} (h : small62 i = true) : -(2 ^ 62) ≤ i ∧ i < 2 ^ 62 := by
  unfold small62 at h
  rw [Bool.and_eq_true] at h
  exact ⟨of_decide_eq_true h.1, of_decide_eq_true h.2⟩
theorem si_range1 {a : PySem.Expr} {fp pos : Pos} {g : Sl → Out} (ok : TabOk c T) (hg : glB sc "range" = true) (h : SE c sc asg a g) (h0 : ∀ e p, a = .Starred e p → ∀ σ, g σ = none) :
    SI c sc asg (.Call (.Name "range" fp) [a] [] pos) fun σ => (g σ).bind fun x => (match x.1 with | .int j => if small62 j && decide (j.toNat ≤ big) then some (intsFrom 0 j.toNat) else none | _ => none) := fun tg => by
  obtain ⟨t, a1, a2⟩ := h
  by_cases hs : ∃ e p, a = .Starred e p
  · refine ⟨tiF, fun _ _ => pi_F, fun σp xs e => ?_⟩
    obtain ⟨e', p, q⟩ := hs
    simp [h0 e' p q] at e
  · have hs' : ∀ e p, a ≠ .Starred e p := fun e p q => hs ⟨e, p, q⟩
    refine ⟨iRng1 (tCons t tNil), fun X x => pi_range1 (gl_of (by rw [x.sc]; exact hg)) (by rw [x.mg]; exact ok.blt _ (by decide +kernel)) (pa_cons (a1 X x) pa_nil (star_of hs')) (star_of hs'), fun σp xs e => ?_⟩
    cases e1 : g σp with
    | none => simp [e1] at e
    | some p =>
      obtain ⟨x, o⟩ := p
      simp only [e1, Option.bind_some] at e
      split at e
      · rename_i j
        split at e
        · rename_i hc
          rw [Bool.and_eq_true] at hc
          cases e
          intro F H σ s vr R q
          refine (a2 σp _ o e1).s F H σ s vr _ fun v F1 H1 g1 r1 => ?_
          cases r1
          obtain ⟨b1, b2⟩ := small62_of hc.1
          exact ⟨j, rfl, b1, b2, q _ _ F1 H1 g1 (vInts_reps _ _) itok_r⟩
        · cases e
      · cases e
theorem si_range2 {a b : PySem.Expr} {fp pos : Pos} {g g2 : Sl → Out} (ok : TabOk c T) (hg : glB sc "range" = true) (h : SE c sc asg a g) (h' : SE c sc asg b g2) (h0 : ∀ e p, a = .Starred e p → ∀ σ, g σ = none) (h1 : ∀ e p, b = .Starred e p → ∀ σ, g2 σ = none) :
    SI c sc asg (.Call (.Name "range" fp) [a, b] [] pos) fun σ => (g σ).bind fun x => (g2 σ).bind fun y => (match x.1, y.1 with
            | .int i, .int j => if small62 i && small62 j && decide ((j - i).toNat ≤ big) then some (intsFrom i (j - i).toNat) else none
            | _, _ => none) := fun tg => by
  obtain ⟨t, a1, a2⟩ := h
  obtain ⟨t2, b1, b2⟩ := h'
  by_cases hs : (∃ e p, a = .Starred e p) ∨ ∃ e p, b = .Starred e p
  · refine ⟨tiF, fun _ _ => pi_F, fun σp xs e => ?_⟩
    rcases hs with ⟨e', p, q⟩ | ⟨e', p, q⟩
    · simp [h0 e' p q] at e
    · cases e1 : g σp with
      | none => simp [e1] at e
      | some z =>
        simp [e1, h1 e' p q] at e
  · have hs1 : ∀ e p, a ≠ .Starred e p := fun e p q => hs (.inl ⟨e, p, q⟩)
    have hs2 : ∀ e p, b ≠ .Starred e p := fun e p q => hs (.inr ⟨e, p, q⟩)
    refine ⟨iRng2 (tCons t (tCons t2 tNil)), fun X x => pi_range2 (gl_of (by rw [x.sc]; exact hg)) (by rw [x.mg]; exact ok.blt _ (by decide +kernel)) (pa_cons (a1 X x) (pa_cons (b1 X x) pa_nil (star_of hs2)) (star_of hs1)) (by rw [star_of hs1, star_of hs2]; rfl) (star_of hs2), fun σp xs e => ?_⟩
    cases e1 : g σp with
    | none => simp [e1] at e
    | some p =>
      obtain ⟨x, o⟩ := p
      cases e2 : g2 σp with
      | none => simp [e1, e2] at e
      | some p2 =>
        obtain ⟨y, o2⟩ := p2
        simp only [e1, e2, Option.bind_some] at e
        split at e
        · rename_i i j
          split at e
          · rename_i hc
            rw [Bool.and_eq_true, Bool.and_eq_true] at hc
            cases e
            intro F H σ s vr R q
            refine (a2 σp _ o e1).s F H σ s vr _ fun v F1 H1 g1 r1 => ?_
            refine (b2 σp _ o2 e2).s F1 H1 σ g1.in_ (vr.mono g1.f) _ fun v2 F2 H2 g2' r2 => ?_
            cases r1; cases r2
            obtain ⟨c1, c2⟩ := small62_of hc.1.1
            obtain ⟨c3, c4⟩ := small62_of hc.1.2
            exact ⟨i, j, rfl, ⟨c1, c2, c3, c4⟩, q _ _ F2 H2 (g1.trans g2') (vInts_reps _ _) itok_r⟩
          · cases e
        · cases e
end
end Pv

/-! Part G: targets, comprehensions, the theorem of expressions -/
namespace Pv
open PySem L2 PySem.Spec PyProof.Rows

def URel (K : PySem.W.Frag) (F : Hp) : List (Nat × V) → List (Nat × PV) → Prop := Paired fun p q => p.1 = q.1 ∧ Rep K F p.2 q.2
def appV : List (Nat × V) → L2.St → L2.St
  | [], σ => σ
  | u :: us, σ => appV us (σ.set u.1 (some u.2))
theorem appV_append : ∀ (a b : List (Nat × V)) (σ : L2.St), appV (a ++ b) σ = appV b (appV a σ)
  | [], _, _ => rfl
  | u :: a, b, σ => appV_append a b (σ.set u.1 (some u.2))
theorem appV_length : ∀ (a : List (Nat × V)) (σ : L2.St), (appV a σ).length = σ.length
  | [], _ => rfl
  | u :: a, σ => by rw [appV, appV_length a, List.length_set]
theorem URel.append {K : PySem.W.Frag} {F : Hp} : ∀ {ws ws' : List (Nat × V)} {us us' : List (Nat × PV)}, URel K F ws us → URel K F ws' us' → URel K F (ws ++ ws') (us ++ us')
  | _, _, _, _, .nil, h => h
  | _, _, _, _, .cons a r, h => .cons a (URel.append r h)
theorem URel.mono {K : PySem.W.Frag} {F F' : Hp} (s : Same F F') : ∀ {ws : List (Nat × V)} {us : List (Nat × PV)}, URel K F ws us → URel K F' ws us
  | _, _, .nil => .nil
  | _, _, .cons a r => .cons ⟨a.1, a.2.mono s⟩ (URel.mono s r)
theorem URel.ix {K : PySem.W.Frag} {F : Hp} : ∀ {ws : List (Nat × V)} {us : List (Nat × PV)}, URel K F ws us → ws.map (·.1) = us.map (·.1)
  | _, _, .nil => rfl
  | _, _, .cons a r => by simp only [List.map_cons, a.1, URel.ix r]
theorem Vrel.set {K : PySem.W.Frag} {F : Hp} {σp : Sl} {σ : L2.St} {i : Nat} {v : V} {x : PV} (h : Vrel K F σp σ) (r : Rep K F v x) : Vrel K F (σp.set i (some x)) (σ.set i (some v)) := by
  refine ⟨by rw [List.length_set, List.length_set]; exact h.1, fun j y e => ?_⟩
  by_cases hj : i = j
  · subst hj
    by_cases hl : i < σp.length
    · rw [List.getElem?_set_self hl] at e
      cases e
      exact ⟨v, List.getElem?_set_self (by rw [← h.1]; exact hl), r⟩
    · rw [List.getElem?_eq_none (by rw [List.length_set]; omega)] at e
      cases e
  · rw [List.getElem?_set_ne hj] at e ⊢
    exact h.2 j y e
theorem Vrel.app {K : PySem.W.Frag} {F : Hp} : ∀ {ws : List (Nat × V)} {us : List (Nat × PV)} {σp : Sl} {σ : L2.St}, URel K F ws us → Vrel K F σp σ → Vrel K F (app us σp) (appV ws σ)
  | _, _, _, _, .nil, h => h
  | p :: ws, q :: us, σp, σ, .cons a r, h => by
    unfold Pv.app appV
    rw [a.1]
    exact Vrel.app r (h.set a.2)

section
variable {c : Cc} {sc : Scope} {asg : Str → Bool}
/-- a target's store -/
def SG (c : Cc) (sc : Scope) (asg : Str → Bool) (tg : PySem.Expr) : Prop := ∃ g : TG, (∀ X, CxOk c sc asg X → PG X tg g) ∧ ∀ x us, updT c.N sc asg tg x = some us →
  ∀ F H v σ (Q : L2.St → Hp → Prop), Same F H → Rep c.K F v x → (∀ ws, URel c.K F ws us → Q (appV ws σ) H) → g v σ H Q
def gF : TG := fun _ _ _ _ => False
theorem pg_F {X : Cx} {e : PySem.Expr} : PG X e gF := ⟨fun _ _ _ _ _ _ _ _ _ h => h.elim⟩
def gsF : TGs := fun _ _ _ _ => False
theorem pgs_F {X : Cx} {e : List PySem.Expr} : PGs X e gsF := ⟨fun _ _ _ _ _ _ _ _ _ h => h.elim⟩
theorem assign_each {e : PySem.Expr} {es : List PySem.Expr} {env : Env} (h : ∃ x p, e = .Name x p) : (assignEach (e :: es) env).map (·.2) = assign e env :: (assignEach es env).map (·.2) ∧ assignEach (e :: es) env = (false, assign e env) :: assignEach es env := by
  obtain ⟨x, p, rfl⟩ := h
  exact ⟨rfl, rfl⟩
theorem pg_nameC {x : Str} {pos : Pos} {i : Nat} (nd : c.N.Nodup) (hi : idx c.N x = some i) (hl : locB sc x = true) (ha : asg x = true) {X : Cx} (ok : CxOk c sc asg X) : PG X (.Name x pos) (gName i) :=
  pg_name (by rw [ok.N]; exact nd) (by rw [ok.N]; exact idx_get hi) (by rw [ok.sc]; exact loc_of hl) (ok.as x ha)
theorem updN_of {x : Str} {v : PV} {us : List (Nat × PV)} (h : updN c.N sc asg x v = some us) : ∃ i, idx c.N x = some i ∧ locB sc x = true ∧ asg x = true ∧ us = [(i, v)] := by
  unfold updN at h
  cases e : idx c.N x with
  | none => simp [e] at h
  | some i =>
    simp only [e, Option.bind_some] at h
    split at h
    · rename_i hc
      rw [Bool.and_eq_true] at hc
      cases h
      exact ⟨i, rfl, hc.1, hc.2, rfl⟩
    · cases h
theorem updN_any {x : Str} {v v' : PV} {us : List (Nat × PV)} (h : updN c.N sc asg x v = some us) : ∃ us', updN c.N sc asg x v' = some us' := by
  obtain ⟨i, h1, h2, h3, rfl⟩ := updN_of h
  exact ⟨[(i, v')], by simp [updN, h1, h2, h3]⟩
/-- all the targets' names are stored -/
def nmOk (N : List Str) (sc : Scope) (asg : Str → Bool) (e : PySem.Expr) : Bool := match e with
  | .Name x _ => (idx N x).isSome && locB sc x && asg x
  | _ => false
theorem sgs (nd : c.N.Nodup) : ∀ (es : List PySem.Expr), ∃ g : TGs, (∀ X, CxOk c sc asg X → PGs X es g) ∧ ∀ xs us, updNs c.N sc asg es xs = some us →
    (es.all (fun e => nmOk c.N sc asg e) = true ∧ xs.length = es.length) ∧
    ∀ F H vs σ (Q : L2.St → Hp → Prop), Same F H → Reps c.K F vs xs → (∀ ws, URel c.K F ws us → Q (appV ws σ) H) → g vs σ H Q
  | [] => ⟨gNil, fun _ _ => pgs_nil, fun xs us h => by
      cases xs with
      | nil =>
        simp only [updNs] at h
        cases h
        exact ⟨⟨rfl, rfl⟩, fun F H vs σ Q s r q => by cases r; exact ⟨rfl, q [] .nil⟩⟩
      | cons _ _ => simp only [updNs] at h; cases h⟩
  | e :: es => by
    obtain ⟨g, h1, h2⟩ := sgs nd es
    by_cases hn : nmOk c.N sc asg e = true
    · cases e with
      | Name x p =>
        have hn' := hn
        unfold nmOk at hn'
        simp only [Bool.and_eq_true, Option.isSome_iff_exists] at hn'
        obtain ⟨⟨⟨i, hi⟩, hl⟩, ha⟩ := hn'
        refine ⟨gCons (gName i) g, fun X ok => pgs_cons (pg_nameC nd hi hl ha ok) (h1 X ok) (assign_each ⟨x, p, rfl⟩).1, fun xs us h => ?_⟩
        cases xs with
        | nil => simp only [updNs] at h; cases h
        | cons y ys =>
          simp only [updNs] at h
          cases e1 : updN c.N sc asg x y with
          | none => simp [e1] at h
          | some u =>
            cases e2 : updNs c.N sc asg es ys with
            | none => simp [e1, e2] at h
            | some us' =>
              simp only [e1, e2, Option.bind_some, Option.map_some] at h
              cases h
              obtain ⟨⟨a1, a2⟩, a3⟩ := h2 ys us' e2
              obtain ⟨j, b1, _, _, rfl⟩ := updN_of e1
              rw [hi] at b1
              cases b1
              refine ⟨⟨by rw [List.all_cons, hn, a1]; rfl, by rw [List.length_cons, a2]; rfl⟩, fun F H vs σ Q s r q => ?_⟩
              cases r with
              | cons r1 r2 =>
                refine ⟨_, _, rfl, ?_⟩
                refine a3 F H _ _ _ s r2 fun ws w => ?_
                exact q ((i, _) :: ws) (.cons ⟨rfl, r1⟩ w)
      | _ => cases hn
    · refine ⟨gsF, fun _ _ => pgs_F, fun xs us h => ?_⟩
      exfalso
      cases e with
      | Name x p =>
        cases xs with
        | nil => simp only [updNs] at h; cases h
        | cons y ys =>
          simp only [updNs] at h
          cases e1 : updN c.N sc asg x y with
          | none => simp [e1] at h
          | some u =>
            obtain ⟨j, b1, b2, b3, _⟩ := updN_of e1
            exact hn (by simp [nmOk, b1, b2, b3])
      | _ => cases xs <;> (simp only [updNs] at h; cases h)
theorem each_len {env : Env} : ∀ {es : List PySem.Expr}, es.all (fun e => nmOk c.N sc asg e) = true → (assignEach es env).length = es.length ∧ (assignEach es env).findIdx? (·.1) = none
  | [], _ => ⟨rfl, rfl⟩
  | e :: es, h => by
    rw [List.all_cons, Bool.and_eq_true] at h
    obtain ⟨h1, h2⟩ := each_len (env := env) h.2
    cases e with
    | Name x p =>
      rw [(assign_each (env := env) ⟨x, p, rfl⟩).2]
      refine ⟨by rw [List.length_cons, h1]; rfl, ?_⟩
      rw [List.findIdx?_cons, h2]
      rfl
    | _ => cases h.1
theorem sg (nd : c.N.Nodup) (tg : PySem.Expr) : SG c sc asg tg := by
  cases tg with
  | Name x pos =>
    by_cases hn : nmOk c.N sc asg (.Name x pos) = true
    · have hn' := hn
      unfold nmOk at hn'
      simp only [Bool.and_eq_true, Option.isSome_iff_exists] at hn'
      obtain ⟨⟨⟨i, hi⟩, hl⟩, ha⟩ := hn'
      refine ⟨gName i, fun X ok => pg_nameC nd hi hl ha ok, fun y us h F H v σ Q s r q => ?_⟩
      have h := updT_old h; simp only [updT0] at h
      obtain ⟨j, b1, _, _, rfl⟩ := updN_of h
      rw [hi] at b1
      cases b1
      exact q [(i, v)] (.cons ⟨rfl, r⟩ .nil)
    · refine ⟨gF, fun _ _ => pg_F, fun y us h => ?_⟩
      have h := updT_old h; simp only [updT0] at h
      obtain ⟨j, b1, b2, b3, _⟩ := updN_of h
      exact absurd (by simp [nmOk, b1, b2, b3]) hn
  | Tuple es k pos =>
    obtain ⟨g, h1, h2⟩ := sgs (sc := sc) (asg := asg) nd es
    by_cases ha : es.all (fun e => nmOk c.N sc asg e) = true
    · refine ⟨gTup c.K es.length g, fun X ok => by rw [← ok.K]; exact pg_tup ok.calm (h1 X ok) (each_len ha).1 (each_len ha).2, fun x us h F H v σ Q s r q => ?_⟩
      cases x with
      | tup xs =>
        have h := updT_old h; simp only [updT0] at h
        obtain ⟨⟨_, a2⟩, a3⟩ := h2 xs us h
        obtain ⟨a, vs, rfl, b1, b2⟩ := r.ofTup
        exact ⟨a, vs, rfl, Same.sqT s b1, by rw [b2.length]; exact a2, a3 F H vs σ Q s b2 q⟩
      | _ => have h := updT_old h; simp only [updT0] at h; cases h
    · refine ⟨gF, fun _ _ => pg_F, fun x us h => ?_⟩
      cases x with
      | tup xs =>
        have h := updT_old h; simp only [updT0] at h
        exact absurd (h2 xs us h).1.1 ha
      | _ => have h := updT_old h; simp only [updT0] at h; cases h
  | _ => exact ⟨gF, fun _ _ => pg_F, fun x us h => by cases x <;> (have h := updT_old h; simp only [updT0] at h; cases h)⟩
end
end Pv

/-! Part H: list comprehensions -/
namespace Pv
open PySem L2 PySem.Spec PyProof.Rows

theorem wipe_get {σ : L2.St} {j : Nat} : ∀ {vs : List Nat}, (wipe σ vs)[j]? = if j ∈ vs then (if j < σ.length then some none else none) else σ[j]?
  | [] => by simp [wipe]
  | v :: vs => by
    unfold wipe
    by_cases hv : v = j
    · subst hv
      simp only [List.mem_cons, true_or, if_true]
      by_cases hl : v < σ.length
      · rw [List.getElem?_set_self (by rw [wipe_length]; exact hl), if_pos hl]
      · rw [List.getElem?_eq_none (by rw [List.length_set, wipe_length]; omega), if_neg hl]
    · rw [List.getElem?_set_ne hv, wipe_get]
      have : (j ∈ v :: vs) = (j ∈ vs) := by simp [show ¬ j = v from fun e => hv e.symm]
      simp only [this]
theorem wipe_wipe {σ : L2.St} {vs : List Nat} : wipe (wipe σ vs) vs = wipe σ vs := by
  apply List.ext_getElem?
  intro j
  rw [wipe_get, wipe_get, wipe_length]
  split <;> rfl
theorem appV_out {j : Nat} : ∀ {ws : List (Nat × V)} {σ : L2.St}, j ∉ ws.map (·.1) → (appV ws σ)[j]? = σ[j]?
  | [], _, _ => rfl
  | u :: ws, σ, h => by
    simp only [List.map_cons, List.mem_cons, not_or] at h
    unfold appV
    rw [appV_out h.2, List.getElem?_set_ne (fun e => h.1 e.symm)]
theorem wipe_app {ws : List (Nat × V)} {σ : L2.St} {vs : List Nat} (h : ∀ j ∈ ws.map (·.1), j ∈ vs) : wipe (appV ws (wipe σ vs)) vs = wipe σ vs := by
  apply List.ext_getElem?
  intro j
  rw [wipe_get, wipe_get, appV_length, wipe_length]
  by_cases hj : j ∈ vs
  · rw [if_pos hj, if_pos hj]
  · rw [if_neg hj, if_neg hj, appV_out (fun z => hj (h j z)), wipe_get, if_neg hj]
theorem Vrel.wipe {K : PySem.W.Frag} {F : Hp} {σp : Sl} {σ : L2.St} (h : Vrel K F σp σ) : ∀ (vs : List Nat), Vrel K F (wipeP σp vs) (wipe σ vs)
  | [] => h
  | v :: vs => by
    have ih := Vrel.wipe h vs
    unfold wipeP L2.wipe
    refine ⟨by rw [List.length_set, List.length_set]; exact ih.1, fun j y e => ?_⟩
    by_cases hj : v = j
    · subst hj
      by_cases hl : v < (wipeP σp vs).length
      · rw [List.getElem?_set_self hl] at e; cases e
      · rw [List.getElem?_eq_none (by rw [List.length_set]; omega)] at e; cases e
    · rw [List.getElem?_set_ne hj] at e ⊢
      exact ih.2 j y e

section
variable {c : Cc} {sc : Scope} {asg : Str → Bool} {T : Tb}
theorem updNs_ix {P : Nat → Prop} (hP : ∀ x i, idx c.N x = some i → asg x = true → P i) : ∀ {es : List PySem.Expr} {xs : List PV} {us : List (Nat × PV)}, updNs c.N sc asg es xs = some us → ∀ j ∈ us.map (·.1), P j
  | [], [], us, h => by simp only [updNs] at h; cases h; intro j hj; cases hj
  | [], _ :: _, us, h => by simp only [updNs] at h; cases h
  | e :: es, xs, us, h => by
    cases e with
    | Name x p =>
      cases xs with
      | nil => simp only [updNs] at h; cases h
      | cons y ys =>
        simp only [updNs] at h
        cases e1 : updN c.N sc asg x y with
        | none => simp [e1] at h
        | some u =>
          cases e2 : updNs c.N sc asg es ys with
          | none => simp [e1, e2] at h
          | some us' =>
            simp only [e1, e2, Option.bind_some, Option.map_some] at h
            cases h
            obtain ⟨i, b1, _, b3, rfl⟩ := updN_of e1
            intro j hj
            simp only [List.cons_append, List.nil_append, List.map_cons, List.mem_cons] at hj
            rcases hj with rfl | hj
            · exact hP x _ b1 b3
            · exact updNs_ix hP e2 j hj
    | _ => cases xs <;> (simp only [updNs] at h; cases h)
theorem updT_ix {P : Nat → Prop} (hP : ∀ x i, idx c.N x = some i → asg x = true → P i) {tg : PySem.Expr} {x : PV} {us : List (Nat × PV)} (h : updT c.N sc asg tg x = some us) : ∀ j ∈ us.map (·.1), P j := by
  have h := updT_old h
  unfold updT0 at h
  split at h
  · obtain ⟨i, b1, _, b3, rfl⟩ := updN_of h
    intro j hj
    simp only [List.map_cons, List.map_nil, List.mem_singleton] at hj
    subst hj
    exact hP _ _ b1 b3
  · exact updNs_ix hP h
  · cases h
theorem own_mem {N : List Str} {scope : Scope} {x : Str} {i : Nat} (h1 : idx N x = some i) (h2 : asgOf scope x = true) : i ∈ (ownOf N scope).map (·.2) := by
  unfold asgOf locB at h2
  refine List.mem_map.mpr ⟨(x, i), ?_, rfl⟩
  unfold ownOf
  split at h2
  · rename_i e
    exact List.mem_filterMap.mpr ⟨(x, .local), PySem.mem_of_lookup e, by simp [h1]⟩
  · rename_i e
    exact List.mem_filterMap.mpr ⟨(x, .cell), PySem.mem_of_lookup e, by simp [h1]⟩
  · cases h2
theorem blk_ok {scope : Scope} {X : Cx} (ok : CxOk c sc asg X) (s : Shared) (H : Hp) (C : Addr) (cl : List (Str × Addr)) (fp : List Addr) : CxOk c (relS scope sc) (asgOf scope) (X.blk s H scope (compEnvC scope cl C X.env) fp) := by
  refine ⟨ok.P, ok.w, ok.K, ok.mg, ok.base, ok.N, ?_, ok.rm, ok.calm, fun x h => ?_⟩
  · rw [← ok.sc]; rfl
  · unfold asgOf locB at h
    split at h
    · rename_i e
      right
      show (relS scope X.env.scope).names.lookup x = some .local
      exact lookup_relS_keep (by decide) e
    · rename_i e
      left
      show (scope.names.lookup x == some NameKind.cell) = true
      rw [e]
      rfl
    · cases h

/-- a comprehension as a value, and given to a name -/
def SEL (c : Cc) (sc : Scope) (asg : Str → Bool) (elt : PySem.Expr) (gens : List Comprehension) (scope : Scope) (pos : Pos) (f : Sl → Out) : Prop := ∃ t, (∀ X, CxOk c sc asg X → PE X (.ListComp elt gens scope pos) t ∧
    ∀ i y py spos, X.N[i]? = some y → X.env.scope.names.lookup y = some .local → swapsWith (.ListComp elt gens scope pos) (some (.Name y py)) spos.line X.env = pure true → PS X (.Assign [.Name y py] (.ListComp elt gens scope pos) spos) (tAsg t (gName i))) ∧
  ∀ σp x own, f σp = some (x, own) → EvE c.K t σp x own
theorem SEL.se {elt : PySem.Expr} {gens : List Comprehension} {scope : Scope} {pos : Pos} {f : Sl → Out} (h : SEL c sc asg elt gens scope pos f) : SE c sc asg (.ListComp elt gens scope pos) f :=
  let ⟨t, a, b⟩ := h; ⟨t, fun X x => (a X x).1, b⟩
theorem SEL.none {elt : PySem.Expr} {gens : List Comprehension} {scope : Scope} {pos : Pos} : SEL c sc asg elt gens scope pos fun _ => none :=
  ⟨tF, fun _ _ => ⟨pe_F, fun _ _ _ _ _ _ _ => ⟨fun _ _ _ _ _ _ h => h.elim⟩⟩, fun _ _ _ h => nomatch h⟩
theorem SEL.congr {elt : PySem.Expr} {gens : List Comprehension} {scope : Scope} {pos : Pos} {f g : Sl → Out} (h : SEL c sc asg elt gens scope pos f) (q : ∀ σ, g σ = f σ) : SEL c sc asg elt gens scope pos g :=
  let ⟨t, a, b⟩ := h; ⟨t, a, fun σp x own e => b σp x own (by rw [← q]; exact e)⟩
theorem se_lc {elt tg iter : PySem.Expr} {ifs : List PySem.Expr} {scope : Scope} {pos : Pos} {gi : Sl → Option (List PV)} {gt : Sl → Option Bool} {ge : Sl → Out} (nd : c.N.Nodup) (hb : blkC c.N sc scope (ownOf c.N scope) = true)
    (hs : ∀ env x, foldedSetIterable iter env x = pure x) (hi : SI c sc asg iter gi) (hl : ∀ σp xs, gi σp = some xs → xs.length ≤ big)
    (ht : ∃ tt, (∀ X, CxOk c (relS scope sc) (asgOf scope) X → PTs X ifs tt) ∧ ∀ σp b, gt σp = some b → EvT c.K tt σp b) (he : SE c (relS scope sc) (asgOf scope) elt ge) :
    SEL c sc asg elt [⟨tg, iter, ifs, 0⟩] scope pos fun σ => (gi σ).bind fun items =>
      (compL (fun x => (updT c.N (relS scope sc) (asgOf scope) tg x).map fun us => app us (wipeP σ ((ownOf c.N scope).map (·.2)))) gt ge items).bind fun ys => some (.lst ys, true) := by
  obtain ⟨wi, i1, i2⟩ := hi tg
  obtain ⟨tt, t1, t2⟩ := ht
  obtain ⟨te, e1, e2⟩ := he
  obtain ⟨g, g1, g2⟩ := sg (c := c) (sc := relS scope sc) (asg := asgOf scope) nd tg
  refine ⟨tLc wi g tt te ((ownOf c.N scope).map (·.2)), fun X ok => ?_, fun σp y own h => ?_⟩
  · exact ⟨pe_lc ok.calm (by rw [ok.N]; exact nd) (i1 X ok) (blkOk_by (by rw [ok.N, ok.sc]; exact hb)) (fun s H C cl fp => g1 _ (blk_ok ok s H C cl fp)) (fun s H C cl fp => t1 _ (blk_ok ok s H C cl fp)) (fun s H C cl fp => e1 _ (blk_ok ok s H C cl fp)) (hs _),
      fun i y py spos hy hl hw => ps_setLc ok.calm (by rw [ok.N]; exact nd) hy hl hw (i1 X ok) (blkOk_by (by rw [ok.N, ok.sc]; exact hb)) (fun s H C cl fp => g1 _ (blk_ok ok s H C cl fp)) (fun s H C cl fp => t1 _ (blk_ok ok s H C cl fp)) (fun s H C cl fp => e1 _ (blk_ok ok s H C cl fp)) (hs _)⟩
  · cases q1 : gi σp with
    | none => simp [q1] at h
    | some items =>
      simp only [q1, Option.bind_some] at h
      generalize hvs : (ownOf c.N scope).map (·.2) = vs at h
      generalize hbf : (fun x => (updT c.N (relS scope sc) (asgOf scope) tg x).map fun us => app us (wipeP σp vs)) = bf at h
      cases q2 : compL bf gt ge items with
      | none => simp [q2] at h
      | some ys =>
        simp only [q2, Option.bind_some] at h
        cases h
        intro F H σ s vr Q q
        refine i2 σp items q1 F H σ s vr _ fun J us F1 H1 gr1 r1 it => ?_
        intro D hD
        have hF1D : F1 D = none := gr1.in_.free hD
        refine ⟨fun i m Hc => m = us.length - i ∧ i ≤ us.length ∧ ∃ Fc acc ys1 ys2, Grow F1 H1 Fc Hc ∧ Hc D = some (.lst acc) ∧ Fc D = none ∧ Reps c.K Fc acc ys1 ∧ compL bf gt ge (items.drop i) = some ys2 ∧ ys1 ++ ys2 = ys ∧ ys1.length ≤ i, ?_, ?_⟩
        · exact ⟨us.length, by simp, Nat.zero_le _, F1, [], [], ys, Grow.own gr1.in_ hD, upd_same, hF1D, .nil, q2, rfl, Nat.le_refl _⟩
        · rintro i m Hc ⟨rfl, hi, Fc, acc, ys1, ys2, gc, hcD, hfD, rc, qc, hys, hlen⟩
          obtain ⟨it1, it2⟩ := it Hc i (gc.f.trans gc.in_)
          by_cases hlt : i < us.length
          · refine .inr ⟨(it1 hlt).1, fun Hn => ∃ m', m' < us.length - i ∧ m' = us.length - (i + 1) ∧ i + 1 ≤ us.length ∧ ∃ Fc acc ys1 ys2, Grow F1 H1 Fc Hn ∧ Hn D = some (.lst acc) ∧ Fc D = none ∧ Reps c.K Fc acc ys1 ∧ compL bf gt ge (items.drop (i + 1)) = some ys2 ∧ ys1 ++ ys2 = ys ∧ ys1.length ≤ i + 1,
              fun H' h' => ?_, fun x H' hy => ?_⟩
            · obtain ⟨m', h1, h2, h3, h4⟩ := h'
              exact ⟨m', h1, h2, h3, h4⟩
            · obtain ⟨rfl, hx⟩ := (it1 hlt).2 x H' hy
              obtain ⟨xi, hxi, rx⟩ := r1.getV hx
              have hd : items.drop i = xi :: items.drop (i + 1) := by
                obtain ⟨hl, e⟩ := List.getElem?_eq_some_iff.mp hxi
                rw [List.drop_eq_getElem_cons hl, e]
              rw [hd] at qc
              simp only [compL] at qc
              cases w1 : bf xi with
              | none => simp [w1] at qc
              | some σ1 =>
                simp only [w1, Option.bind_some] at qc
                cases w2 : gt σ1 with
                | none => simp [w2] at qc
                | some k =>
                  simp only [w2, Option.bind_some] at qc
                  have w1' := w1
                  rw [← hbf] at w1'
                  simp only at w1'
                  cases w3 : updT c.N (relS scope sc) (asgOf scope) tg xi with
                  | none => simp [w3] at w1'
                  | some uu =>
                    simp only [w3, Option.map_some, Option.some.injEq] at w1'
                    subst w1'
                    have lenI : (us.length - (i + 1)) < us.length - i := by omega
                    refine g2 xi uu w3 Fc H' x _ _ gc.in_ (rx.mono gc.f) fun ws hw => ?_
                    refine ⟨wipe_app fun j hj => ?_, ?_⟩
                    · rw [hw.ix] at hj
                      rw [← hvs]
                      exact updT_ix (c := c) (P := fun j => j ∈ (ownOf c.N scope).map (·.2)) (fun x i a b => own_mem a b) w3 j hj
                    · have vr1 : Vrel c.K Fc (app uu (wipeP σp vs)) (appV ws (L2.wipe σ vs)) := Vrel.app hw (((vr.mono gr1.f).mono gc.f).wipe vs)
                      refine t2 _ k w2 Fc H' _ gc.in_ vr1 _ fun F3 H3 g3 => ?_
                      have h3D : H3 D = some (.lst acc) := g3.h _ _ hcD
                      have f3D : F3 D = none := g3.new D (by rw [hcD]; simp) hfD
                      cases k with
                      | false =>
                        rw [if_neg Bool.false_ne_true] at qc ⊢
                        exact ⟨_, lenI, rfl, hlt, F3, acc, ys1, ys2, gc.trans g3, h3D, f3D, rc.mono g3.f, qc, hys, Nat.le_succ_of_le hlen⟩
                      | true =>
                        rw [if_pos rfl] at qc ⊢
                        cases w4 : ge (app uu (wipeP σp vs)) with
                        | none => simp [w4] at qc
                        | some p =>
                          obtain ⟨yv, yo⟩ := p
                          simp only [w4, Option.bind_some] at qc
                          cases w5 : compL bf gt ge (items.drop (i + 1)) with
                          | none => simp [w5] at qc
                          | some ys3 =>
                            simp only [w5, Option.map_some, Option.some.injEq] at qc
                            subst qc
                            refine (e2 _ yv yo w4).s F3 H3 _ g3.in_ (vr1.mono g3.f) _ fun v F4 H4 g4 r4 => ?_
                            have h4D : H4 D = some (.lst acc) := g4.h _ _ h3D
                            have f4D : F4 D = none := g4.new D (by rw [h3D]; simp) f3D
                            have gg := (gc.trans g3).trans g4
                            refine ⟨acc, h4D, ?_, _, lenI, rfl, hlt, F4, acc ++ [v], ys1 ++ [yv], ys3, ⟨gg.f, ?_, ?_, gg.new⟩, upd_same, f4D, ((rc.mono g3.f).mono g4.f).append (.cons r4 .nil), (by first | exact w5 | rfl), by rw [← hys]; simp, by rw [List.length_append]; simp; exact hlen⟩
                            · have a1 := rc.length
                              have a2 := r1.length
                              have a3 := hl _ _ q1
                              have a4 := big_line
                              omega
                            · intro b o e
                              rw [upd_ne (ne_of_none e hD)]
                              exact gg.h b o e
                            · intro b o e
                              rw [upd_ne (ne_of_none e f4D)]
                              exact gg.in_ b o e
          · have e : i = us.length := by omega
            subst e
            refine .inl ⟨it2 (Nat.le_refl _), ?_⟩
            have hd : items.drop us.length = [] := by rw [r1.length]; exact List.drop_length ..
            rw [hd] at qc
            simp only [compL] at qc
            cases qc
            rw [List.append_nil] at hys
            subst hys
            exact q _ Fc Hc (gr1.trans gc) (.mine (gr1.h.free hD) hfD hcD rc)
end
end Pv

/-! Part I: all expressions -/
namespace Pv
open PySem L2 PySem.Spec PyProof.Rows

section
variable {c : Cc} {T : Tb}
theorem SE.congr {sc : Scope} {asg : Str → Bool} {e : PySem.Expr} {f g : Sl → Out} (h : SE c sc asg e f) (q : ∀ σ, g σ = f σ) : SE c sc asg e g :=
  let ⟨t, a, b⟩ := h; ⟨t, a, fun σp x own e => b σp x own (by rw [← q]; exact e)⟩
theorem ST.congr {sc : Scope} {asg : Str → Bool} {e : PySem.Expr} {f g : Sl → Option Bool} (h : ST c sc asg e f) (q : ∀ σ, g σ = f σ) : ST c sc asg e g :=
  let ⟨t, a, b⟩ := h; ⟨t, a, fun σp x e => b σp x (by rw [← q]; exact e)⟩
theorem SI.congr {sc : Scope} {asg : Str → Bool} {e : PySem.Expr} {f g : Sl → Option (List PV)} (h : SI c sc asg e f) (q : ∀ σ, g σ = f σ) : SI c sc asg e g := fun tg =>
  let ⟨t, a, b⟩ := h tg; ⟨t, a, fun σp x e => b σp x (by rw [← q]; exact e)⟩
theorem units_of {sc : Scope} {asg : Str → Bool} {X : Cx} (x : CxOk c sc asg X) : X.A.units + 64 < cLine := x.rm.units

variable {sc : Scope} {asg : Str → Bool}
theorem se_binop {a b : PySem.Expr} {op : Operator} {pos : Pos} {f g : Sl → Out} (h1 : SE c sc asg a f) (h2 : SE c sc asg b g) : SE c sc asg (.BinOp a op b pos) fun σ => (f σ).bind fun x => (g σ).bind fun y => binop op x.1 y.1 := by
  obtain ⟨t, a1, a2⟩ := h1
  obtain ⟨u, b1, b2⟩ := h2
  refine ⟨tOp (rB c.K op) t u, fun X x => pe_op (by rw [← x.K]; exact op_B op) (a1 X x) (b1 X x), fun σp z own e => ?_⟩
  cases e1 : f σp with
  | none => simp [e1] at e
  | some p =>
    cases e2 : g σp with
    | none => simp [e1, e2] at e
    | some p2 =>
      simp only [e1, e2, Option.bind_some] at e
      intro F H σ s vr Q q
      refine (a2 σp p.1 p.2 e1).s F H σ s vr _ fun v F1 H1 g1 r1 => ?_
      refine (b2 σp p2.1 p2.2 e2).s F1 H1 σ g1.in_ (vr.mono g1.f) _ fun w F2 H2 g2 r2 => ?_
      exact binop_ok e g2.in_ (r1.mono g2.f) r2 fun w' F' H' g3 r3 => q w' F' H' ((g1.trans g2).trans g3) (r3.mono (g1.h.trans g2.h))
theorem se_neg {a : PySem.Expr} {pos : Pos} {f : Sl → Out} (h1 : SE c sc asg a f) : SE c sc asg (.UnaryOp .USub a pos) fun σ => (f σ).bind fun x => (match x.1 with | .int i => sh (.int (-i)) | _ => none) := by
  obtain ⟨t, a1, a2⟩ := h1
  refine ⟨tUn (rU fun i => .int (-i)) t, fun X x => pe_un un_neg (a1 X x), fun σp z own e => ?_⟩
  cases e1 : f σp with
  | none => simp [e1] at e
  | some p =>
    obtain ⟨x, o⟩ := p
    simp only [e1, Option.bind_some] at e
    split at e
    · cases e
      refine EvS.e fun F H σ s vr Q q => ?_
      refine (a2 σp _ o e1).s F H σ s vr _ fun v F1 H1 g1 r1 => ?_
      cases r1
      exact ⟨_, rfl, q _ F1 H1 g1 (.int _)⟩
    · cases e
theorem se_not {a : PySem.Expr} {pos : Pos} {f : Sl → Out} (h1 : SE c sc asg a f) : SE c sc asg (.UnaryOp .Not a pos) fun σ => (f σ).bind fun x => (match x.1 with | .bl c => sh (.bl (!c)) | _ => none) := by
  obtain ⟨t, a1, a2⟩ := h1
  refine ⟨tNotV t, fun X x => pe_not (a1 X x), fun σp z own e => ?_⟩
  cases e1 : f σp with
  | none => simp [e1] at e
  | some p =>
    obtain ⟨x, o⟩ := p
    simp only [e1, Option.bind_some] at e
    split at e
    · cases e
      refine EvS.e fun F H σ s vr Q q => ?_
      refine (a2 σp _ o e1).s F H σ s vr _ fun v F1 H1 g1 r1 => ?_
      cases r1
      exact ⟨_, rfl, q _ F1 H1 g1 (.bl _)⟩
    · cases e
theorem se_boolV {op : BoolOp} {pos : Pos} {f : Sl → PySem.Expr → Out} : ∀ {es : List PySem.Expr}, (∀ e ∈ es, SE c sc asg e fun σ => f σ e) → SE c sc asg (.BoolOp op es pos) fun σ => boolV (f σ) op es
  | [], _ => SE.none.congr fun _ => rfl
  | [e], h => by
    obtain ⟨t, a1, a2⟩ := h e (List.mem_cons_self ..)
    exact ⟨t, fun X x => pe_one (a1 X x), fun σp z own q => a2 σp z own q⟩
  | e :: e' :: es, h => by
    obtain ⟨t, a1, a2⟩ := h e (List.mem_cons_self ..)
    obtain ⟨u, b1, b2⟩ := se_boolV (op := op) (pos := pos) (f := f) (es := e' :: es) fun e he => h e (List.mem_cons_of_mem _ he)
    cases op with
    | And =>
      refine ⟨tAndV t u, fun X x => pe_and (a1 X x) (b1 X x), fun σp z own q => ?_⟩
      simp only [boolV] at q
      cases e1 : f σp e with
      | none => simp [e1] at q
      | some p =>
        obtain ⟨x, o⟩ := p
        simp only [e1, Option.bind_some] at q
        cases x with
        | bl k =>
          simp only [blOf, Option.bind_some] at q
          intro F H σ s vr Q qq
          refine (a2 σp _ o e1).s F H σ s vr _ fun v F1 H1 g1 r1 => ?_
          cases r1
          refine ⟨k, rfl, ?_⟩
          cases k with
          | true =>
            simp only [if_true] at q
            exact b2 σp z own q F1 H1 σ g1.in_ (vr.mono g1.f) Q fun v F' H' g2 r2 => qq v F' H' (g1.trans g2) (r2.mono g1.h)
          | false =>
            simp only [Bool.false_eq_true, if_false] at q
            cases q
            exact qq _ F1 H1 g1 (.of (.bl _))
        | _ => simp [blOf] at q
    | Or =>
      refine ⟨tOrV t u, fun X x => pe_or (a1 X x) (b1 X x), fun σp z own q => ?_⟩
      simp only [boolV] at q
      cases e1 : f σp e with
      | none => simp [e1] at q
      | some p =>
        obtain ⟨x, o⟩ := p
        simp only [e1, Option.bind_some] at q
        cases x with
        | bl k =>
          simp only [blOf, Option.bind_some] at q
          intro F H σ s vr Q qq
          refine (a2 σp _ o e1).s F H σ s vr _ fun v F1 H1 g1 r1 => ?_
          cases r1
          refine ⟨k, rfl, ?_⟩
          cases k with
          | false =>
            simp only [Bool.false_eq_true, if_false] at q
            exact b2 σp z own q F1 H1 σ g1.in_ (vr.mono g1.f) Q fun v F' H' g2 r2 => qq v F' H' (g1.trans g2) (r2.mono g1.h)
          | true =>
            simp only [if_true] at q
            cases q
            exact qq _ F1 H1 g1 (.of (.bl _))
        | _ => simp [blOf] at q
theorem se_cmp {a b : PySem.Expr} {op : CmpOp} {pos : Pos} {f g : Sl → Out} (h1 : SE c sc asg a f) (h2 : SE c sc asg b g) : SE c sc asg (.Compare a [op] [b] pos) fun σ => if behindInMarks op b then none else (f σ).bind fun x => (g σ).bind fun y => (cmp op x.1 y.1).bind fun k => sh (.bl k) := by
  by_cases hm : behindInMarks op b = true
  · simp only [hm, if_true]
    exact SE.none
  · have hm' : behindInMarks op b = false := by simpa using hm
    simp only [hm']
    obtain ⟨t, a1, a2⟩ := h1
    obtain ⟨u, b1, b2⟩ := h2
    refine ⟨tOp (rC c.K op) t u, fun X x => pe_cmpR (by rw [← x.K]; exact op_C (units_of x) op) (a1 X x) (b1 X x) hm', fun σp z own e => ?_⟩
    cases e1 : f σp with
    | none => simp [e1] at e
    | some p =>
      cases e2 : g σp with
      | none => simp [e1, e2] at e
      | some p2 =>
        cases e3 : cmp op p.1 p2.1 with
        | none => simp [e1, e2, e3] at e
        | some k =>
          simp [e1, e2, e3] at e
          cases e
          refine EvS.e fun F H σ s vr Q q => ?_
          refine (a2 σp p.1 p.2 e1).s F H σ s vr _ fun v F1 H1 g1 r1 => ?_
          refine (b2 σp p2.1 p2.2 e2).s F1 H1 σ g1.in_ (vr.mono g1.f) _ fun w F2 H2 g2 r2 => ?_
          exact cmp_ok e3 g2.in_ (r1.mono g2.f) r2 (q _ F2 H2 (g1.trans g2) (.bl k))
theorem st_cmp {a b : PySem.Expr} {op : CmpOp} {pos : Pos} {f g : Sl → Out} (h1 : SE c sc asg a f) (h2 : SE c sc asg b g) : ST c sc asg (.Compare a [op] [b] pos) fun σ => if behindInMarks op b then none else (f σ).bind fun x => (g σ).bind fun y => cmp op x.1 y.1 := by
  by_cases hm : behindInMarks op b = true
  · simp only [hm, if_true]
    exact ST.none
  · have hm' : behindInMarks op b = false := by simpa using hm
    simp only [hm']
    obtain ⟨t, a1, a2⟩ := h1
    obtain ⟨u, b1, b2⟩ := h2
    refine ⟨tTest (tOp (rC c.K op) t u), fun X x => pt_cmpR (by rw [← x.K]; exact op_C (units_of x) op) (a1 X x) (b1 X x) hm', fun σp k e => ?_⟩
    cases e1 : f σp with
    | none => simp [e1] at e
    | some p =>
      cases e2 : g σp with
      | none => simp [e1, e2] at e
      | some p2 =>
        simp [e1, e2] at e
        intro F H σ s vr Q q
        refine (a2 σp p.1 p.2 e1).s F H σ s vr _ fun v F1 H1 g1 r1 => ?_
        refine (b2 σp p2.1 p2.2 e2).s F1 H1 σ g1.in_ (vr.mono g1.f) _ fun w F2 H2 g2 r2 => ?_
        exact cmp_ok e g2.in_ (r1.mono g2.f) r2 ⟨k, rfl, q F2 H2 (g1.trans g2)⟩
theorem se_if {k a b : PySem.Expr} {pos : Pos} {f : Sl → Option Bool} {g g' : Sl → Out} (h0 : ST c sc asg k f) (h1 : SE c sc asg a g) (h2 : SE c sc asg b g') : SE c sc asg (.IfExp k a b pos) fun σ => (f σ).bind fun k => if k then g σ else g' σ := by
  obtain ⟨t, a1, a2⟩ := h0
  obtain ⟨u, b1, b2⟩ := h1
  obtain ⟨w, c1, c2⟩ := h2
  refine ⟨tIf t u w, fun X x => pe_ifExp (a1 X x) (b1 X x) (c1 X x), fun σp z own e => ?_⟩
  cases e1 : f σp with
  | none => simp [e1] at e
  | some p =>
    simp only [e1, Option.bind_some] at e
    intro F H σ s vr Q q
    refine a2 σp p e1 F H σ s vr _ fun F1 H1 g1 => ?_
    cases p with
    | true =>
      rw [if_pos rfl] at e ⊢
      exact b2 σp z own e F1 H1 σ g1.in_ (vr.mono g1.f) Q fun v F' H' g2 r2 => q v F' H' (g1.trans g2) (r2.mono g1.h)
    | false =>
      rw [if_neg Bool.false_ne_true] at e ⊢
      exact c2 σp z own e F1 H1 σ g1.in_ (vr.mono g1.f) Q fun v F' H' g2 r2 => q v F' H' (g1.trans g2) (r2.mono g1.h)
theorem se_ix {a b : PySem.Expr} {pos : Pos} {f g : Sl → Out} (hp : PlainIx b) (h1 : SE c sc asg a f) (h2 : SE c sc asg b g) : SE c sc asg (.Subscript a b pos) fun σ => (f σ).bind fun x => (g σ).bind fun y => getIx x.1 y.1 := by
  obtain ⟨t, a1, a2⟩ := h1
  obtain ⟨u, b1, b2⟩ := h2
  refine ⟨tOp (rIx c.K) t u, fun X x => pe_ix (by rw [← x.K]; exact ix_seq) (a1 X x) (b1 X x) hp, fun σp z own e => ?_⟩
  cases e1 : f σp with
  | none => simp [e1] at e
  | some p =>
    cases e2 : g σp with
    | none => simp [e1, e2] at e
    | some p2 =>
      simp only [e1, e2, Option.bind_some] at e
      intro F H σ s vr Q q
      refine (a2 σp p.1 p.2 e1).s F H σ s vr _ fun v F1 H1 g1 r1 => ?_
      refine (b2 σp p2.1 p2.2 e2).s F1 H1 σ g1.in_ (vr.mono g1.f) _ fun w F2 H2 g2 r2 => ?_
      have ho : own = false := (getIx_ok (Q := fun _ _ => True) e g2.in_ (r1.mono g2.f) r2 fun _ _ => trivial).2
      subst ho
      exact (getIx_ok e g2.in_ (r1.mono g2.f) r2 fun w' r3 => q w' F2 H2 (g1.trans g2) (.of r3)).1
theorem se_sl {a : PySem.Expr} {lo hi : Option PySem.Expr} {pos p2 : Pos} {f : Sl → Out} {l h : Sl → Option (Option Int)} (h1 : SE c sc asg a f) (h2 : SO c sc asg lo l) (h3 : SO c sc asg hi h) :
    SE c sc asg (.Subscript a (.Slice lo hi none p2) pos) fun σ => (f σ).bind fun x => (l σ).bind fun l => (h σ).bind fun h => getSl x.1 l h := by
  obtain ⟨t, a1, a2⟩ := h1
  obtain ⟨u, b1, b2⟩ := h2
  obtain ⟨w, c1, c2⟩ := h3
  refine ⟨tSl (rSl c.K) t u w, fun X x => pe_slice (by rw [← x.K]; exact sl_seq) (a1 X x) (b1 X x) (c1 X x), fun σp z own e => ?_⟩
  cases e1 : f σp with
  | none => simp [e1] at e
  | some p =>
    cases e2 : l σp with
    | none => simp [e1, e2] at e
    | some o1 =>
      cases e3 : h σp with
      | none => simp [e1, e2, e3] at e
      | some o2 =>
        simp only [e1, e2, e3, Option.bind_some] at e
        intro F H σ s vr Q q
        refine (a2 σp p.1 p.2 e1).s F H σ s vr _ fun v F1 H1 g1 r1 => ?_
        refine b2 σp o1 e2 F1 H1 σ g1.in_ (vr.mono g1.f) _ fun F2 H2 g2 => ?_
        refine c2 σp o2 e3 F2 H2 σ g2.in_ ((vr.mono g1.f).mono g2.f) _ fun F3 H3 g3 => ?_
        exact getSl_ok e g3.in_ ((r1.mono g2.f).mono g3.f) fun w' F' H' g4 r4 => q w' F' H' (((g1.trans g2).trans g3).trans g4) (r4.mono ((g1.h.trans g2.h).trans g3.h))
theorem st_boolT {op : BoolOp} {pos : Pos} {f : Sl → PySem.Expr → Option Bool} : ∀ {es : List PySem.Expr}, (∀ e ∈ es, ST c sc asg e fun σ => f σ e) → ∃ t, (∀ X, CxOk c sc asg X → PW X (.BoolOp op es pos) t) ∧ ∀ σp b, boolT (f σp) op es = some b → EvT c.K t σp b
  | [], _ => ⟨ttF, fun _ _ => pw_F, fun σp b h => by simp only [boolT] at h; cases h⟩
  | [e], h => by
    obtain ⟨t, a1, a2⟩ := h e (List.mem_cons_self ..)
    cases op with
    | And => exact ⟨t, fun X x => pw_and1 (a1 X x), fun σp b q => a2 σp b q⟩
    | Or => exact ⟨t, fun X x => pw_or1 (a1 X x), fun σp b q => a2 σp b q⟩
  | e :: e' :: es, h => by
    obtain ⟨t, a1, a2⟩ := h e (List.mem_cons_self ..)
    obtain ⟨u, b1, b2⟩ := st_boolT (op := op) (pos := pos) (f := f) (es := e' :: es) fun e he => h e (List.mem_cons_of_mem _ he)
    cases op with
    | And =>
      refine ⟨tAnd t u, fun X x => pw_and (a1 X x) (b1 X x), fun σp b q => ?_⟩
      simp only [boolT] at q
      cases e1 : f σp e with
      | none => simp [e1] at q
      | some k =>
        simp only [e1, Option.bind_some] at q
        intro F H σ s vr Q qq
        refine a2 σp k e1 F H σ s vr _ fun F1 H1 g1 => ?_
        cases k with
        | true =>
          simp only [if_true] at q
          exact b2 σp b q F1 H1 σ g1.in_ (vr.mono g1.f) Q fun F' H' g2 => qq F' H' (g1.trans g2)
        | false =>
          simp only [Bool.false_eq_true, if_false] at q
          cases q
          exact qq F1 H1 g1
    | Or =>
      refine ⟨tOr t u, fun X x => pw_or (a1 X x) (b1 X x), fun σp b q => ?_⟩
      simp only [boolT] at q
      cases e1 : f σp e with
      | none => simp [e1] at q
      | some k =>
        simp only [e1, Option.bind_some] at q
        intro F H σ s vr Q qq
        refine a2 σp k e1 F H σ s vr _ fun F1 H1 g1 => ?_
        cases k with
        | false =>
          simp only [Bool.false_eq_true, if_false] at q
          exact b2 σp b q F1 H1 σ g1.in_ (vr.mono g1.f) Q fun F' H' g2 => qq F' H' (g1.trans g2)
        | true =>
          simp only [if_true] at q
          cases q
          exact qq F1 H1 g1
theorem st_not {a : PySem.Expr} {pos : Pos} {f : Sl → Option Bool} (h1 : ST c sc asg a f) : ST c sc asg (.UnaryOp .Not a pos) fun σ => (f σ).map (!·) := by
  obtain ⟨t, a1, a2⟩ := h1
  refine ⟨tNot t, fun X x => pt_not (a1 X x), fun σp b e => ?_⟩
  cases e1 : f σp with
  | none => simp [e1] at e
  | some k =>
    simp only [e1, Option.map_some] at e
    cases e
    intro F H σ s vr Q q
    exact a2 σp k e1 F H σ s vr _ fun F1 H1 g1 => q F1 H1 g1
theorem st_truth {a : PySem.Expr} {f : Sl → Out} (h1 : SE c sc asg a f) (he : ∀ env whole, isTrue a env whole = (do let v ← whole; standAt a.pos; holding [v] (truthy v))) : ST c sc asg a fun σ => (f σ).bind fun x => truth x.1 := by
  obtain ⟨t, a1, a2⟩ := h1
  refine ⟨fun σ H Q => t σ H fun x H' => ∃ k, TruV c.K x H' k ∧ Q k H', fun X x => by rw [← x.K]; exact pt_truth (a1 X x) (he _), fun σp b e => ?_⟩
  cases e1 : f σp with
  | none => simp [e1] at e
  | some p =>
    simp only [e1, Option.bind_some] at e
    intro F H σ s vr Q q
    refine (a2 σp p.1 p.2 e1).s F H σ s vr _ fun v F1 H1 g1 r1 => ?_
    exact ⟨b, truth_ok e g1.in_ r1, q F1 H1 g1⟩
theorem so_none : SO c sc asg none fun _ => some none := ⟨tNoPart, fun _ _ => po_none, fun σp o e => by
  cases e
  exact fun F H σ s vr Q q => q F H (Grow.refl s)⟩
theorem so_some {a : PySem.Expr} {f : Sl → Out} (h1 : SE c sc asg a f) : SO c sc asg (some a) fun σ => (f σ).bind fun x => (match x.1 with | .int i => some (some i) | _ => none) := by
  obtain ⟨t, a1, a2⟩ := h1
  refine ⟨tPart t, fun X x => po_some (a1 X x), fun σp b e => ?_⟩
  cases e1 : f σp with
  | none => simp [e1] at e
  | some p =>
    obtain ⟨x, o⟩ := p
    simp only [e1, Option.bind_some] at e
    split at e
    · cases e
      intro F H σ s vr Q q
      refine (a2 σp _ o e1).s F H σ s vr _ fun v F1 H1 g1 r1 => ?_
      cases r1
      exact ⟨_, rfl, q F1 H1 g1⟩
    · cases e
theorem seqOf_len {x : PV} {xs : List PV} (h : seqOf x = some xs) : xs.length ≤ big := by
  unfold seqOf at h
  split at h
  · split at h
    · cases h; assumption
    · cases h
  · split at h
    · cases h; assumption
    · cases h
  · cases h
theorem intsFrom_len : ∀ (n : Nat) (lo : Int), (intsFrom lo n).length = n
  | 0, _ => rfl
  | n + 1, lo => by show (intsFrom (lo + 1) n).length + 1 = n + 1; rw [intsFrom_len]
theorem evI_len {n : Nat} {e : PySem.Expr} {σp : Sl} {xs : List PV} (h : evI T c.N n sc σp e = some xs) : xs.length ≤ big := by
  cases n with
  | zero => simp only [evI] at h; cases h
  | succ n =>
    unfold evI at h
    split at h
    · cases h
    · split at h
      · split at h
        · split at h
          · obtain ⟨p, _, h⟩ := Option.bind_eq_some_iff.mp h
            (first | unfold rng1 at h | unfold rng2 at h); split at h
            · split at h
              · rename_i hc
                rw [Bool.and_eq_true, decide_eq_true_eq] at hc
                cases h
                rw [intsFrom_len]
                exact hc.2
              · cases h
            · cases h
          · obtain ⟨p, _, h⟩ := Option.bind_eq_some_iff.mp h
            obtain ⟨p2, _, h⟩ := Option.bind_eq_some_iff.mp h
            (first | unfold rng1 at h | unfold rng2 at h); split at h
            · split at h
              · rename_i hc
                rw [Bool.and_eq_true, decide_eq_true_eq] at hc
                cases h
                rw [intsFrom_len]
                exact hc.2
              · cases h
            · cases h
          · cases h
        · cases h
      · obtain ⟨p, _, h⟩ := Option.bind_eq_some_iff.mp h
        exact seqOf_len h
    · obtain ⟨p, _, h⟩ := Option.bind_eq_some_iff.mp h
      exact seqOf_len h
end
end Pv

/-! Part J: all expressions, together -/
namespace Pv
open PySem L2 PySem.Spec PyProof.Rows

section
variable {c : Cc} {T : Tb}
theorem starred_none {n : Nat} {sc : Scope} {e : PySem.Expr} {p : Pos} : ∀ σ, evE T c.N n sc σ (.Starred e p) = none := fun σ => by
  cases n <;> rfl
theorem evE_star {n : Nat} {sc : Scope} {a : PySem.Expr} : ∀ e p, a = .Starred e p → ∀ σ, evE T c.N n sc σ a = none := fun e p q σ => by
  subst q; exact starred_none σ
theorem args_len {n : Nat} {sc : Scope} {es : List PySem.Expr} : ∀ σp xs, evEs (evE T c.N n sc σp) es = some xs → xs.length = es.length ∧ starB es = false := fun σp xs h => ⟨evEs_length h, starB_ev h⟩
structure Sound (c : Cc) (T : Tb) (n : Nat) : Prop where
  e : ∀ sc asg e, SE c sc asg e fun σ => evE T c.N n sc σ e
  t : ∀ sc asg e, ST c sc asg e fun σ => evT T c.N n sc σ e
  o : ∀ sc asg e, SO c sc asg e fun σ => evO T c.N n sc σ e
  i : ∀ sc asg e, SI c sc asg e fun σ => evI T c.N n sc σ e
theorem sound_call {n : Nat} (ih : Sound c T n) (ok : TabOk c T) (sc : Scope) (asg : Str → Bool) (fn : PySem.Expr) (args : List PySem.Expr) (kws : List Keyword) (pos : Pos) : SE c sc asg (.Call fn args kws pos) fun σ => evE T c.N (n + 1) sc σ (.Call fn args kws pos) := by
  have IA : ∀ es, SA c sc asg es fun σ => evEs (evE T c.N n sc σ) es := fun es => sa_of (f := fun σ e => evE T c.N n sc σ e) fun e _ => ih.e sc asg e
  cases fn with
  | Name f fp =>
    cases kws with
    | nil =>
      by_cases h0 : (okNm f && glB sc f) = true
      · have h0' := h0
        rw [Bool.and_eq_true] at h0'
        cases hd : T.dfl f args.length with
        | some ds =>
          refine (se_call (fp := fp) (pos := pos) ok h0'.1 h0'.2 hd (IA args) args_len).congr fun σ => ?_
          simp only [evE, h0, if_true, hd]
        | none =>
          by_cases hb : isBlt f = true
          · by_cases hi : f = "isinstance"
            · subst hi
              cases args with
              | nil => exact SE.none.congr fun σ => by simp only [evE, h0, if_true, hd, hb]
              | cons a args =>
                cases args with
                | nil => exact SE.none.congr fun σ => by simp only [evE, h0, if_true, hd, hb]
                | cons b args =>
                  cases args with
                  | cons _ _ => exact SE.none.congr fun σ => by simp only [evE, h0, if_true, hd, hb]
                  | nil =>
                    cases b with
                    | Name t tp =>
                      by_cases ht : glB sc t = true
                      · cases hy : tyNames.lookup t with
                        | none => exact SE.none.congr fun σ => by simp only [evE, h0, if_true, hd, hb, ht, hy, Option.bind_none]
                        | some ty =>
                          refine (se_isi (fp := fp) (tp := tp) (pos := pos) ok h0'.2 ht hy (ih.e sc asg a) evE_star).congr fun σ => ?_
                          simp only [evE, h0, if_true, hd, hb, ht, hy, Option.bind_some]
                      · exact SE.none.congr fun σ => by simp only [evE, h0, if_true, hd, hb, ht]; rfl
                    | _ => exact SE.none.congr fun σ => by simp only [evE, h0, if_true, hd, hb]
            · cases args with
              | nil => exact SE.none.congr fun σ => by simp only [evE, h0, if_true, hd, hb, hi, if_false]
              | cons a args =>
                refine (se_blt (fp := fp) (pos := pos) ok hb h0'.2 (IA (a :: args)) fun σp xs h => starB_ev h).congr fun σ => ?_
                simp only [evE, h0, if_true, hd, hb, hi, if_false]
          · exact SE.none.congr fun σ => by simp only [evE, h0, if_true, hd, hb]; rfl
      · exact SE.none.congr fun σ => by simp only [evE, h0]; rfl
    | cons k kws =>
      cases kws with
      | cons _ _ => exact SE.none.congr fun σ => by obtain ⟨o, v, kp⟩ := k; cases o <;> rfl
      | nil =>
        obtain ⟨o, v, kp⟩ := k
        cases o with
        | none => exact SE.none.congr fun σ => by rfl
        | some k =>
          by_cases h0 : (okNm f && glB sc f && T.kwd f args.length [k]) = true
          · have h0' := h0
            rw [Bool.and_eq_true, Bool.and_eq_true] at h0'
            cases args with
            | nil => exact SE.none.congr fun σ => by simp only [evE, h0, if_true]
            | cons a args =>
              refine (se_callK (fp := fp) (pos := pos) (kp := kp) ok h0'.1.1 h0'.1.2 h0'.2 (IA (a :: args)) (ih.e sc asg v) args_len).congr fun σ => ?_
              simp only [evE, h0, if_true]
          · exact SE.none.congr fun σ => by simp only [evE, h0]; rfl
  | _ => exact SE.none.congr fun σ => by rfl
theorem SE.sh2 {sc : Scope} {asg : Str → Bool} {e : PySem.Expr} {f g : Sl → Out} {h : PV → PV → Out} (q : SE c sc asg e fun σ => (f σ).bind fun x => (g σ).bind fun y => h x.1 y.1) : SE c sc asg e fun σ => (f σ).bind fun x => (g σ).bind fun y => (h x.1 y.1).bind fun z => sh z.1 :=
  q.map fun σ x own e => by
    obtain ⟨a, e1, e⟩ := Option.bind_eq_some_iff.mp e
    obtain ⟨b, e2, e⟩ := Option.bind_eq_some_iff.mp e
    obtain ⟨z, e3, e⟩ := Option.bind_eq_some_iff.mp e
    cases e
    exact ⟨z.2, by rw [e1, e2]; exact e3, fun h => by cases h⟩
theorem SE.sh3 {sc : Scope} {asg : Str → Bool} {e : PySem.Expr} {f : Sl → Out} {g k : Sl → Option (Option Int)} {h : PV → Option Int → Option Int → Out} (q : SE c sc asg e fun σ => (f σ).bind fun x => (g σ).bind fun y => (k σ).bind fun w => h x.1 y w) : SE c sc asg e fun σ => (f σ).bind fun x => (g σ).bind fun y => (k σ).bind fun w => (h x.1 y w).bind fun z => sh z.1 :=
  q.map fun σ x own e => by
    obtain ⟨a, e1, e⟩ := Option.bind_eq_some_iff.mp e
    obtain ⟨b, e2, e⟩ := Option.bind_eq_some_iff.mp e
    obtain ⟨b', e2', e⟩ := Option.bind_eq_some_iff.mp e
    obtain ⟨z, e3, e⟩ := Option.bind_eq_some_iff.mp e
    cases e
    exact ⟨z.2, by rw [e1, e2, e2']; exact e3, fun h => by cases h⟩
theorem fold_of {e : PySem.Expr} (h : ∀ a b p, e ≠ .Set a b p) : ∀ env x, foldedSetIterable e env x = pure x := fun env x => by
  cases e <;> first | rfl | exact absurd rfl (h _ _ _)
theorem sound_lc {n : Nat} (ih : Sound c T n) (ok : TabOk c T) (sc : Scope) (asg : Str → Bool) (elt : PySem.Expr) (gens : List Comprehension) (scope : Scope) (pos : Pos) : SEL c sc asg elt gens scope pos fun σ => evE T c.N (n + 1) sc σ (.ListComp elt gens scope pos) := by
  cases gens with
  | nil => exact SEL.none.congr fun σ => by rfl
  | cons g gens =>
    obtain ⟨tg, it, ifs, z⟩ := g
    cases gens with
    | cons _ _ => exact SEL.none.congr fun σ => by unfold evE; split <;> first | rfl | (rename_i h; simp at h)
    | nil =>
      by_cases hz : z = 0
      · subst hz
        by_cases hb : blkC c.N sc scope (ownOf c.N scope) = true
        · by_cases hs : ∃ a b p, it = .Set a b p
          · obtain ⟨a, b, p, rfl⟩ := hs
            refine SEL.none.congr fun σ => ?_
            have : evI T c.N n sc σ (.Set a b p) = none := by cases n <;> rfl
            simp only [evE, hb, this, Option.bind_none]
            rfl
          · have ht : ∃ tt, (∀ X, CxOk c (relS scope sc) (asgOf scope) X → PTs X ifs tt) ∧ ∀ σp b, ifsB (evT T c.N n (relS scope sc) σp) ifs = some b → EvT c.K tt σp b := by
              cases ifs with
              | nil => exact ⟨tYes, fun _ _ => pts_nil, fun σp b h => by simp only [ifsB] at h; cases h; exact fun F H σ s vr Q q => q F H (Grow.refl s)⟩
              | cons k ks =>
                cases ks with
                | nil =>
                  obtain ⟨t, a1, a2⟩ := ih.t (relS scope sc) (asgOf scope) k
                  exact ⟨t, fun X x => pts_one (a1 X x), fun σp b h => a2 σp b h⟩
                | cons _ _ => exact ⟨ttF, fun _ _ => ⟨fun _ _ _ _ _ _ h => h.elim⟩, fun σp b h => by simp only [ifsB] at h; cases h⟩
            refine (se_lc (pos := pos) (tg := tg) ok.nd hb (fold_of fun a b p q => hs ⟨a, b, p, q⟩) (ih.i sc asg it) (fun σp xs h => evI_len h) ht (ih.e (relS scope sc) (asgOf scope) elt)).congr fun σ => ?_
            have hc := fun items => compM_eq (b := fun x => (updT c.N (relS scope sc) (asgOf scope) tg x).map fun us => app us (wipeP σ ((ownOf c.N scope).map (·.2)))) (t := fun σp => ifsB (evT T c.N n (relS scope sc) σp) ifs) (e := fun σ => evE T c.N n (relS scope sc) σ elt)
              (step := fun x => updTK c.N (relS scope sc) (asgOf scope) tg x fun us =>
                (ifsB (evT T c.N n (relS scope sc) (app us (wipeP σ ((ownOf c.N scope).map (·.2))))) ifs).bind fun c1 =>
                  if c1 then (evE T c.N n (relS scope sc) (app us (wipeP σ ((ownOf c.N scope).map (·.2)))) elt).bind fun y => some (some y.1) else some none) (fun x => by rw [updTK_eq]; cases updT c.N (relS scope sc) (asgOf scope) tg x <;> rfl) items
            simp only [evE, hb]
            simp only [hc]
            rfl
        · refine SEL.none.congr fun σ => ?_
          simp only [evE, hb]
          rfl
      · refine SEL.none.congr fun σ => ?_
        simp only [evE, hz]
        rfl
theorem sound_e {n : Nat} (ih : Sound c T n) (ok : TabOk c T) (sc : Scope) (asg : Str → Bool) (e : PySem.Expr) : SE c sc asg e fun σ => evE T c.N (n + 1) sc σ e := by
  have IA : ∀ es, SA c sc asg es fun σ => evEs (evE T c.N n sc σ) es := fun es => sa_of (f := fun σ e => evE T c.N n sc σ e) fun e _ => ih.e sc asg e
  cases e with
  | Constant k j pos =>
    cases k with
    | none => exact (se_const (fun X => pe_non) fun F => .non).congr fun σ => by first | (simp only [evE]; done) | (simp only [evE]; rfl)
    | bool b => exact (se_const (fun X => pe_bl) fun F => .bl b).congr fun σ => by first | (simp only [evE]; done) | (simp only [evE]; rfl)
    | int i => exact (se_const (fun X => pe_int) fun F => .int i).congr fun σ => by first | (simp only [evE]; done) | (simp only [evE]; rfl)
    | str s => exact (se_const (fun X => pe_str) fun F => .str s).congr fun σ => by first | (simp only [evE]; done) | (simp only [evE]; rfl)
    | _ => exact SE.none.congr fun σ => by rfl
  | Name x pos => exact (se_name (T := T) ok.con).congr fun σ => by first | (simp only [evE]; done) | (simp only [evE]; rfl)
  | Tuple es k pos => exact (se_tup (IA es) fun σp xs h => evEs_length h).congr fun σ => by first | (simp only [evE]; done) | (simp only [evE]; rfl)
  | List es pos => exact (se_lst (IA es) fun σp xs h => evEs_length h).congr fun σ => by first | (simp only [evE]; done) | (simp only [evE]; rfl)
  | BinOp a op b pos => exact (se_binop (ih.e sc asg a) (ih.e sc asg b)).sh2.congr fun σ => by first | (simp only [evE]; done) | (simp only [evE]; rfl)
  | UnaryOp op a pos =>
    cases op with
    | USub => exact (se_neg (ih.e sc asg a)).congr fun σ => by first | (simp only [evE]; done) | (simp only [evE]; rfl)
    | Not => exact (se_not (ih.e sc asg a)).congr fun σ => by first | (simp only [evE]; done) | (simp only [evE]; rfl)
    | _ => exact SE.none.congr fun σ => by rfl
  | BoolOp op es pos => exact (se_boolV (f := fun σ e => evE T c.N n sc σ e) fun e _ => ih.e sc asg e).congr fun σ => by first | (simp only [evE]; done) | (simp only [evE]; rfl)
  | Compare a ops bs pos =>
    cases ops with
    | nil => exact SE.none.congr fun σ => by rfl
    | cons op ops =>
      cases ops with
      | cons _ _ => exact SE.none.congr fun σ => by rfl
      | nil =>
        cases bs with
        | nil => exact SE.none.congr fun σ => by rfl
        | cons b bs =>
          cases bs with
          | cons _ _ => exact SE.none.congr fun σ => by rfl
          | nil => exact (se_cmp (ih.e sc asg a) (ih.e sc asg b)).congr fun σ => by first | (simp only [evE]; done) | (simp only [evE]; rfl)
  | IfExp k a b pos => exact (se_if (ih.t sc asg k) (ih.e sc asg a) (ih.e sc asg b)).congr fun σ => by first | (simp only [evE]; done) | (simp only [evE]; rfl)
  | Subscript a b pos =>
    cases b with
    | Slice lo hi st p2 =>
      cases st with
      | none => exact (se_sl (ih.e sc asg a) (ih.o sc asg lo) (ih.o sc asg hi)).sh3.congr fun σ => by first | (simp only [evE]; done) | (simp only [evE]; rfl)
      | some _ => exact SE.none.congr fun σ => by rfl
    | _ => exact (se_ix (fun _ _ => rfl) (ih.e sc asg a) (ih.e sc asg _)).sh2.congr fun σ => by first | (simp only [evE]; done) | (simp only [evE]; rfl)
  | Call fn args kws pos => exact sound_call ih ok sc asg fn args kws pos
  | ListComp elt gens scope pos => exact (sound_lc ih ok sc asg elt gens scope pos).se
  | _ => exact SE.none.congr fun σ => by rfl
theorem sound_t {n : Nat} (ih : Sound c T n) (sc : Scope) (asg : Str → Bool) (e : PySem.Expr) : ST c sc asg e fun σ => evT T c.N (n + 1) sc σ e := by
  cases e with
  | Compare a ops bs pos =>
    cases ops with
    | nil => exact ST.none.congr fun σ => by rfl
    | cons op ops =>
      cases ops with
      | cons _ _ => exact ST.none.congr fun σ => by rfl
      | nil =>
        cases bs with
        | nil => exact ST.none.congr fun σ => by rfl
        | cons b bs =>
          cases bs with
          | cons _ _ => exact ST.none.congr fun σ => by rfl
          | nil => exact (st_cmp (ih.e sc asg a) (ih.e sc asg b)).congr fun σ => by simp only [evT]
  | BoolOp op es pos =>
    obtain ⟨t, a1, a2⟩ := st_boolT (op := op) (pos := pos) (f := fun σ e => evT T c.N n sc σ e) fun e (_ : e ∈ es) => ih.t sc asg e
    exact ⟨t, fun X x => (a1 X x).pt, fun σp b h => a2 σp b (by simp only [evT] at h; exact h)⟩
  | UnaryOp op a pos =>
    cases op with
    | Not => exact (st_not (ih.t sc asg a)).congr fun σ => by simp only [evT]
    | _ => exact (st_truth (ih.e sc asg _) fun _ _ => rfl).congr fun σ => by rfl
  | IfExp k a b pos => exact ST.none.congr fun σ => by rfl
  | _ => exact (st_truth (ih.e sc asg _) fun _ _ => rfl).congr fun σ => by rfl
theorem sound_o {n : Nat} (ih : Sound c T n) (sc : Scope) (asg : Str → Bool) (e : Option PySem.Expr) : SO c sc asg e fun σ => evO T c.N (n + 1) sc σ e := by
  cases e with
  | none => exact so_none
  | some e => exact so_some (ih.e sc asg e)
theorem sound_i {n : Nat} (ih : Sound c T n) (ok : TabOk c T) (sc : Scope) (asg : Str → Bool) (e : PySem.Expr) : SI c sc asg e fun σ => evI T c.N (n + 1) sc σ e := by
  have D : SI c sc asg e fun σ => (evE T c.N n sc σ e).bind fun x => seqOf x.1 := si_seq (ih.e sc asg e)
  cases e with
  | Set _ _ _ => exact SI.none.congr fun σ => by rfl
  | Call fn args kws pos =>
    cases fn with
    | Name f fp =>
      cases kws with
      | cons _ _ => exact D.congr fun σ => by rfl
      | nil =>
        by_cases hf : f = "range"
        · subst hf
          by_cases hg : glB sc "range" = true
          · cases args with
            | nil => exact SI.none.congr fun σ => by simp only [evI, hg, if_true]
            | cons a args =>
              cases args with
              | nil => exact (si_range1 (fp := fp) (pos := pos) ok hg (ih.e sc asg a) evE_star).congr fun σ => by simp only [evI, hg, if_true]; rfl
              | cons b args =>
                cases args with
                | nil => exact (si_range2 (fp := fp) (pos := pos) ok hg (ih.e sc asg a) (ih.e sc asg b) evE_star evE_star).congr fun σ => by simp only [evI, hg, if_true]; rfl
                | cons _ _ => exact SI.none.congr fun σ => by simp only [evI, hg, if_true]
          · exact SI.none.congr fun σ => by simp only [evI, hg, if_true]; rfl
        · exact D.congr fun σ => by simp only [evI, hf, if_false]
    | _ => exact D.congr fun σ => by rfl
  | _ => exact D.congr fun σ => by rfl
theorem sound (ok : TabOk c T) : ∀ n, Sound c T n
  | 0 => ⟨fun _ _ _ => SE.none.congr fun σ => by simp only [evE], fun _ _ _ => ST.none.congr fun σ => by simp only [evT],
      fun _ _ _ => ⟨toF, fun _ _ => po_F, fun σp o h => by simp only [evO] at h; cases h⟩, fun _ _ _ => SI.none.congr fun σ => by simp only [evI]⟩
  | n + 1 => ⟨sound_e (sound ok n) ok, sound_t (sound ok n), sound_o (sound ok n), sound_i (sound ok n) ok⟩
theorem sound_lcn (ok : TabOk c T) : ∀ n sc asg elt gens scope pos, SEL c sc asg elt gens scope pos fun σ => evE T c.N n sc σ (.ListComp elt gens scope pos)
  | 0, _, _, _, _, _, _ => SEL.none.congr fun σ => by simp only [evE]
  | n + 1, sc, asg, elt, gens, scope, pos => sound_lc (sound ok n) ok sc asg elt gens scope pos
end
end Pv

/-! Part K: the evaluator of statements -/
namespace Pv
open PySem L2

inductive Slot where
  | emp | val (x : PV) | own (xs : List PV)
abbrev Fm := List Slot
def vis1 : Slot → Option PV
  | .val x => some x | _ => none
def thaw1 : Slot → Option PV
  | .val x => some x | .own xs => some (.lst xs) | .emp => none
def vis (σ : Fm) : Sl := σ.map vis1
def thaw (σ : Fm) : Sl := σ.map thaw1
def frz1 (b : Bool) : Slot → Slot
  | .own xs => if b then .val (.lst xs) else .own xs
  | s => s
def freezeFrom (q : Nat → Bool) : Nat → Fm → Fm
  | _, [] => []
  | i, s :: r => frz1 (q i) s :: freezeFrom q (i + 1) r
def freeze (q : Nat → Bool) (σ : Fm) : Fm := freezeFrom q 0 σ
/-- the names that occur -/
def occ : Nat → PySem.Expr → List Str
  | 0, _ => []
  | n + 1, e => match e with
    | .Name x _ => [x]
    | .BoolOp _ es _ => es.flatMap (occ n)
    | .BinOp a _ b _ => occ n a ++ occ n b
    | .UnaryOp _ a _ => occ n a
    | .IfExp a b c _ => occ n a ++ occ n b ++ occ n c
    | .Compare a _ bs _ => occ n a ++ bs.flatMap (occ n)
    | .Call f es ks _ => occ n f ++ es.flatMap (occ n) ++ ks.flatMap (fun k => occ n k.value)
    | .Attribute a _ _ => occ n a
    | .Subscript a b _ => occ n a ++ occ n b
    | .Slice a b c _ => (match a with | some a => occ n a | none => []) ++ (match b with | some b => occ n b | none => [])
    | .List es _ => es.flatMap (occ n)
    | .Tuple es _ _ => es.flatMap (occ n)
    | .ListComp e gs _ _ => occ n e ++ gs.flatMap (fun g => occ n g.iter ++ g.ifs.flatMap (occ n))
    | .GeneratorExp e gs _ _ => occ n e ++ gs.flatMap (fun g => occ n g.iter ++ g.ifs.flatMap (occ n))
    | _ => []
def frzOf (N : List Str) (e : PySem.Expr) (σ : Fm) : Fm := freeze (fun i => match N[i]? with | some x => (occ 30 e).any (· == x) | none => false) σ

def isOwn : Slot → Bool
  | .own _ => true | _ => false
/-- some list of one's own occurs -/
def ownAt (N : List Str) (σ : Fm) (e : PySem.Expr) : Bool := σ.any isOwn && (σ.zip N).any fun q => isOwn q.1 && (occ 30 e).any (· == q.2)
/-- an expression in a frame with lists of its own: with them shared for good (b), or lent -/
def evTop (b : Bool) (N : List Str) (f : Sl → PySem.Expr → Out) (σ : Fm) (e : PySem.Expr) : Option (PV × Bool × Fm) :=
  if ownAt N σ e then (if b then (f (vis (frzOf N e σ)) e).bind fun p => some (p.1, p.2, frzOf N e σ)
      else (f (thaw σ) e).bind fun p => if p.1.flat then some (p.1, false, σ) else none)
  else (f (vis σ) e).bind fun p => some (p.1, p.2, σ)
def ownT : Option (PV × Bool × Fm) → Option (List PV × Fm)
  | some (.lst xs, true, σ) => some (xs, σ)
  | _ => none
/-- its value is a list of its own, by its looks -/
def frE (T : Tb) : PySem.Expr → Bool
  | .List _ _ => true
  | .ListComp _ _ _ _ => true
  | .Call (.Name f _) _ _ _ => T.own f || f == "list"
  | _ => false
/-- what a loop lays aside, or shares -/
def clr : List (Nat × Bool) → Fm → Fm
  | [], σ => σ
  | q :: r, σ => clr r (if q.2 then freeze (fun j => j == q.1) σ else σ.set q.1 .emp)
def evTst (f : Sl → PySem.Expr → Option Bool) (σ : Fm) (e : PySem.Expr) : Option Bool := f (thaw σ) e
def evItr (N : List Str) (f : Sl → PySem.Expr → Option (List PV)) (σ : Fm) (e : PySem.Expr) : Option (List PV × Fm) :=
  if ownAt N σ e then (f (vis (frzOf N e σ)) e).bind fun xs => some (xs, frzOf N e σ)
  else (f (vis σ) e).bind fun xs => some (xs, σ)

inductive Fl where
  | nx (σ : Fm) | rt (x : PV) (own : Bool) | bk (σ : Fm) | ct (σ : Fm)
def slotOf (x : PV) (own : Bool) : Slot := if own then (match x with | .lst xs => .own xs | x => .val x) else .val x
def appF : List (Nat × PV) → Fm → Fm
  | [], σ => σ
  | u :: us, σ => appF us (σ.set u.1 (.val u.2))
def thenF (f : Fl) (k : Fm → Option Fl) : Option Fl := match f with
  | .nx σ => k σ
  | f => some f
def loopF (cl : Fm → Fm) (f : Fl) (k : Fm → Option Fl) : Option Fl := match f with
  | .nx σ => k (cl σ)
  | .ct σ => k (cl σ)
  | .bk σ => some (.nx (cl σ))
  | .rt x o => some (.rt x o)
def forL (cl : Fm → Fm) (bind : PV → Fm → Option Fm) (body : Fm → Option Fl) : List PV → Fm → Option Fl
  | [], σ => some (.nx σ)
  | x :: r, σ => (bind x σ).bind fun σ1 => (body σ1).bind fun f => loopF cl f (forL cl bind body r)
def whL (cl : Fm → Fm) (test : Fm → Option Bool) (body : Fm → Option Fl) : Nat → Fm → Option Fl
  | 0, _ => none
  | w + 1, σ => (test σ).bind fun b => if b then (body σ).bind fun f => loopF cl f (whL cl test body w) else some (.nx σ)
def exL (f : Fm → Stmt → Option Fl) : List Stmt → Fm → Option Fl
  | [], σ => some (.nx σ)
  | [s], σ => f σ s
  | s :: r, σ => (f σ s).bind fun g => thenF g (exL f r)
def storeN (N : List Str) (sc : Scope) (x : Str) (s : Slot) (σ : Fm) : Option Fm :=
  (idx N x).bind fun i => if locB sc x then some (σ.set i s) else none
/-- a, b = e1, e2 whose stores are swapped -/
def parB (sc : Scope) (ts vs : List PySem.Expr) : Option (Str × Str) := match ts, vs with
  | [.Name x px, .Name y py], [a, b] =>
    if decide (sc.names.lookup x = some .local) && decide (sc.names.lookup y = some .local) && (py.line == px.line) && !(x == y) && !(starB [a, b]) && !([a, b].all (foldedForSure 8)) && !([a, b].all (constantsAlone 8))
      then some (x, y) else none
  | _, _ => none
def isComp : PySem.Expr → Bool
  | .ListComp _ _ _ _ => true | .SetComp _ _ _ _ => true | .DictComp _ _ _ _ _ => true | _ => false
def isTup : PySem.Expr → Bool
  | .Tuple _ _ _ => true | .List _ _ => true | _ => false
def isSl : PySem.Expr → Bool
  | .Slice _ _ _ _ => true | _ => false
/-- name = [..]: does the store come within the comprehension's end -/
def swapB (sc : Scope) (x : Str) (px : Pos) (e : PySem.Expr) : Bool := match e with
  | .ListComp _ _ s p => decide (sc.names.lookup x = some .local) && (px.line == p.line) && !(s.names.any fun q => q.1 == x && (q.2 == .local || q.2 == .cell))
  | _ => false

/-- behind an if: what is laid aside -/
def clrF (l : List (Nat × Bool)) : Fl → Fl
  | .nx σ => .nx (clr l σ)
  | f => f
def exS (T : Tb) (N : List Str) (M W : Nat) (sc : Scope) : Nat → Fm → Stmt → Option Fl
  | 0, _, _ => none
  | n + 1, σ, s => match s with
    | .Pass _ => some (.nx σ)
    | .Break _ => some (.bk σ)
    | .Continue _ => some (.ct σ)
    | .Return none _ => some (.rt .non false)
    | .Return (some (.Name x p)) pos => if okNm x && visB sc x then (match idx N x with
        | some i => (match σ[i]? with
          | some (.own xs) => some (.rt (.lst xs) true)
          | some (.val v) => some (.rt v false)
          | _ => none)
        | none => none) else (evTop (T.frz pos.line pos.col) N (evE T N M sc) σ (.Name x p)).bind fun p => some (.rt p.1 p.2.1)
    | .Return (some e) pos => (evTop (T.frz pos.line pos.col) N (evE T N M sc) σ e).bind fun p => some (.rt p.1 p.2.1)
    | .Assign [.Name x px] e pos => if isComp e && !(swapB sc x px e) then none else
        if frE T e then (ownT (evTop true N (evE T N M sc) σ e)).bind fun q => (storeN N sc x (.own q.1) q.2).map .nx
        else (evTop (T.frz pos.line pos.col) N (evE T N M sc) σ e).bind fun p => (storeN N sc x (.val p.1) p.2.2).map .nx
    | .Assign [.Tuple ts _ _] (.Tuple vs _ _) pos => (parB sc ts vs).bind fun xy =>
        (match vs with
        | [a, b] => (evTop (T.frz pos.line pos.col) N (evE T N M sc) σ a).bind fun p => (evTop (T.frz pos.line pos.col) N (evE T N M sc) p.2.2 b).bind fun q =>
            (storeN N sc xy.1 (.val p.1) q.2.2).bind fun σ1 => (storeN N sc xy.2 (.val q.1) σ1).map .nx
        | _ => none)
    | .Assign [.Tuple ts k pt] e pos => if isTup e || isComp e then none else
        (evTop (T.frz pos.line pos.col) N (evE T N M sc) σ e).bind fun p => (updT N sc (fun _ => true) (.Tuple ts k pt) p.1).map fun us => .nx (appF us p.2.2)
    | .Assign [.Subscript (.Name x _) ie _] e pos => if isComp e || isSl ie || !(okNm x && visB sc x) then none else (evTop (T.frz pos.line pos.col) N (evE T N M sc) σ e).bind fun p => (idx N x).bind fun i =>
        (match p.2.2[i]? with
        | some (.own _) => (evTop (T.frz pos.line pos.col) N (evE T N M sc) p.2.2 ie).bind fun q => (match q.2.2[i]?, q.1 with
          | some (.own xs), .int k => (ixN xs.length k).map fun j => .nx (q.2.2.set i (.own (xs.set j p.1)))
          | _, _ => none)
        | _ => none)
    | .Expr (.Call (.Attribute (.Name x _) m ap) args [] cp) pos => if !(okNm x && visB sc x && (ap.endLine == cp.line)) then none else (idx N x).bind fun i =>
        (match σ[i]? with
        | some (.own _) => if m = "append" then (match args with
            | [a] => if starB [a] then none else (evTop (T.frz pos.line pos.col) N (evE T N M sc) σ a).bind fun p => (match p.2.2[i]? with
              | some (.own xs) => if xs.length < big then some (.nx (p.2.2.set i (.own (xs ++ [p.1])))) else none
              | _ => none)
            | _ => none)
          else if m = "pop" then (match args, σ[i]? with
            | [], some (.own xs) => if xs.isEmpty then none else some (.nx (σ.set i (.own xs.dropLast)))
            | _, _ => none)
          else none
        | _ => none)
    | .If c a b pos => (evTst (evT T N M sc) σ c).bind fun k => (if k then exL (exS T N M W sc n) a σ else exL (exS T N M W sc n) b σ).map (clrF (T.fgt pos.line pos.col))
    | .While c a [] pos => whL (clr (T.fgt pos.line pos.col)) (fun σ => evTst (evT T N M sc) σ c) (exL (exS T N M W sc n) a) W (clr (T.fgt pos.line pos.col) σ)
    | .For tg it a [] pos => (evItr N (evI T N M sc) σ it).bind fun p => forL (clr (T.fgt pos.line pos.col)) (fun x σ => (updT N sc (fun _ => true) tg x).map fun us => appF us σ) (exL (exS T N M W sc n) a) p.1 (clr (T.fgt pos.line pos.col) p.2)
    | _ => none
end Pv

/-! Part L: frames with lists of their own; an expression in such a frame -/
namespace Pv
open PySem L2 PySem.Spec PyProof.Rows
open Classical

structure SRel (K : PySem.W.Frag) (H0 F0 F : Hp) (ad : Nat → Addr) (σp : Fm) (σ : L2.St) (H : Hp) : Prop where
  g : Grow F0 H0 F H
  len : σp.length = σ.length
  val : ∀ (i : Nat) x, σp[i]? = some (.val x) → ∃ v, σ[i]? = some (some v) ∧ Rep K F v x
  own : ∀ (i : Nat) xs, σp[i]? = some (.own xs) → σ[i]? = some (some (.ref (ad i))) ∧ H0 (ad i) = none ∧ F (ad i) = none ∧ ∃ vs, H (ad i) = some (.lst vs) ∧ Reps K F vs xs
  inj : ∀ (i j : Nat) xs ys, σp[i]? = some (.own xs) → σp[j]? = some (.own ys) → ad i = ad j → i = j

section
variable {K : PySem.W.Frag} {H0 F0 F H F' H' : Hp} {ad : Nat → Addr} {σp : Fm} {σ : L2.St}
theorem SRel.grow (r : SRel K H0 F0 F ad σp σ H) (g : Grow F H F' H') : SRel K H0 F0 F' ad σp σ H' := by
  refine ⟨r.g.trans g, r.len, fun i x e => ?_, fun i xs e => ?_, r.inj⟩
  · obtain ⟨v, h1, h2⟩ := r.val i x e
    exact ⟨v, h1, h2.mono g.f⟩
  · obtain ⟨h1, h2, h3, vs, h4, h5⟩ := r.own i xs e
    exact ⟨h1, h2, g.new _ (by rw [h4]; simp) h3, vs, g.h _ _ h4, h5.mono g.f⟩
theorem SRel.vis (r : SRel K H0 F0 F ad σp σ H) : Vrel K F (vis σp) σ := by
  refine ⟨by unfold Pv.vis; rw [List.length_map]; exact r.len, fun i x e => ?_⟩
  unfold Pv.vis at e
  rw [List.getElem?_map] at e
  cases h : σp[i]? with
  | none => simp [h] at e
  | some s =>
    rw [h] at e
    cases s with
    | val y =>
      simp only [Option.map_some, vis1, Option.some.injEq] at e
      subst e
      exact r.val i y h
    | _ => simp [vis1] at e

/-- the heap with some of one's own lists shared -/
noncomputable def opened (q : Nat → Bool) (σp : Fm) (ad : Nat → Addr) (F H : Hp) : Hp := fun p => if ∃ i xs, σp[i]? = some (.own xs) ∧ q i = true ∧ ad i = p then H p else F p
theorem opened_in {q : Nat → Bool} {i : Nat} {xs : List PV} (h : σp[i]? = some (.own xs)) (hq : q i = true) : opened q σp ad F H (ad i) = H (ad i) := by
  unfold opened
  rw [if_pos ⟨i, xs, h, hq, rfl⟩]
theorem opened_out {q : Nat → Bool} {p : Addr} (h : ¬ ∃ i xs, σp[i]? = some (.own xs) ∧ q i = true ∧ ad i = p) : opened q σp ad F H p = F p := by
  unfold opened
  rw [if_neg h]
theorem SRel.opens (r : SRel K H0 F0 F ad σp σ H) (q : Nat → Bool) : Same F (opened q σp ad F H) ∧ Same (opened q σp ad F H) H := by
  refine ⟨fun b o e => ?_, fun b o e => ?_⟩
  · rw [opened_out]
    · exact e
    · rintro ⟨i, xs, h, _, rfl⟩
      rw [(r.own i xs h).2.2.1] at e
      cases e
  · by_cases h : ∃ i xs, σp[i]? = some (.own xs) ∧ q i = true ∧ ad i = b
    · unfold opened at e
      rw [if_pos h] at e
      exact e
    · rw [opened_out h] at e
      exact r.g.in_ b o e

theorem freezeFrom_get {q : Nat → Bool} : ∀ {σ : Fm} {k i : Nat}, (freezeFrom q k σ)[i]? = (σ[i]?).map (frz1 (q (k + i)))
  | [], k, i => by simp [freezeFrom]
  | s :: r, k, 0 => by simp [freezeFrom]
  | s :: r, k, i + 1 => by
    simp only [freezeFrom, List.getElem?_cons_succ]
    rw [freezeFrom_get]
    congr 2
    rw [show k + 1 + i = k + (i + 1) by omega]
theorem freeze_get {q : Nat → Bool} {σ : Fm} {i : Nat} : (freeze q σ)[i]? = (σ[i]?).map (frz1 (q i)) := by
  unfold freeze
  rw [freezeFrom_get, Nat.zero_add]
theorem freezeFrom_len {q : Nat → Bool} : ∀ {σ : Fm} {k : Nat}, (freezeFrom q k σ).length = σ.length
  | [], k => rfl
  | s :: r, k => by simp only [freezeFrom, List.length_cons, freezeFrom_len]
theorem freeze_own {q : Nat → Bool} {σ : Fm} {i : Nat} {xs : List PV} (h : (freeze q σ)[i]? = some (.own xs)) : σ[i]? = some (.own xs) ∧ q i = false := by
  rw [freeze_get] at h
  cases e : σ[i]? with
  | none => simp [e] at h
  | some s =>
    rw [e] at h
    cases s with
    | own ys =>
      cases hq : q i with
      | true => rw [hq] at h; simp [frz1] at h
      | false => rw [hq] at h; simp [frz1] at h; subst h; exact ⟨rfl, rfl⟩
    | _ => simp [frz1] at h
theorem SRel.freeze (r : SRel K H0 F0 F ad σp σ H) (q : Nat → Bool) : SRel K H0 F0 (opened q σp ad F H) ad (freeze q σp) σ H := by
  obtain ⟨o1, o2⟩ := r.opens q
  refine ⟨⟨r.g.f.trans o1, r.g.h, o2, fun p h1 h2 => ?_⟩, by unfold Pv.freeze; rw [freezeFrom_len]; exact r.len, fun i x e => ?_, fun i xs e => ?_, fun i j xs ys h1 h2 => r.inj i j xs ys (freeze_own h1).1 (freeze_own h2).1⟩
  · rw [opened_out]
    · exact r.g.new p h1 h2
    · rintro ⟨i, xs, h, _, rfl⟩
      exact h1 (r.own i xs h).2.1
  · rw [freeze_get] at e
    cases h : σp[i]? with
    | none => simp [h] at e
    | some s =>
      rw [h] at e
      cases s with
      | val y =>
        simp only [Option.map_some, frz1, Option.some.injEq, Slot.val.injEq] at e
        subst e
        obtain ⟨v, h1, h2⟩ := r.val i y h
        exact ⟨v, h1, h2.mono o1⟩
      | own ys =>
        cases hq : q i with
        | false => rw [hq] at e; simp [frz1] at e
        | true =>
          rw [hq] at e
          simp [frz1] at e
          subst e
          obtain ⟨h1, h2, h3, vs, h4, h5⟩ := r.own i ys h
          exact ⟨_, h1, .lst (.inl (.inl (by rw [opened_in h hq]; exact h4))) (h5.mono o1)⟩
      | emp => simp [frz1] at e
  · obtain ⟨h, hq⟩ := freeze_own e
    obtain ⟨h1, h2, h3, vs, h4, h5⟩ := r.own i xs h
    refine ⟨h1, h2, ?_, vs, h4, h5.mono o1⟩
    rw [opened_out]
    · exact h3
    · rintro ⟨j, ys, hj, hqj, ej⟩
      have := r.inj j i ys xs hj h ej
      subst this
      rw [hq] at hqj
      cases hqj

theorem SRel.emp (r : SRel K H0 F0 F ad σp σ H) (i : Nat) : SRel K H0 F0 F ad (σp.set i .emp) σ H := by
  have get : ∀ (j : Nat) s, (σp.set i .emp)[j]? = some s → s = .emp ∨ σp[j]? = some s := fun j s e => by
    by_cases hj : i = j
    · subst hj
      by_cases hl : i < σp.length
      · rw [List.getElem?_set_self hl] at e
        cases e
        exact .inl rfl
      · rw [List.getElem?_eq_none (by rw [List.length_set]; omega)] at e
        cases e
    · rw [List.getElem?_set_ne hj] at e
      exact .inr e
  refine ⟨r.g, by rw [List.length_set]; exact r.len, fun j y e => ?_, fun j xs e => ?_, fun j k xs ys e1 e2 => ?_⟩
  · rcases get j _ e with h | h
    · cases h
    · exact r.val j y h
  · rcases get j _ e with h | h
    · cases h
    · exact r.own j xs h
  · rcases get j _ e1 with h | h1
    · cases h
    · rcases get k _ e2 with h | h2
      · cases h
      · exact r.inj j k xs ys h1 h2
theorem SRel.clr : ∀ (l : List (Nat × Bool)) {F : Hp} {σp : Fm}, SRel K H0 F0 F ad σp σ H → ∃ F', SRel K H0 F0 F' ad (Pv.clr l σp) σ H
  | [], F, σp, r => ⟨F, r⟩
  | q :: l, F, σp, r => by
    unfold Pv.clr
    by_cases hq : q.2 = true
    · rw [if_pos hq]
      exact SRel.clr l (r.freeze _)
    · rw [if_neg hq]
      exact SRel.clr l (r.emp q.1)
/-- all of one's own lists lent -/
theorem SRel.thaw (r : SRel K H0 F0 F ad σp σ H) : Vrel K (opened (fun _ => true) σp ad F H) (thaw σp) σ := by
  obtain ⟨o1, o2⟩ := r.opens fun _ => true
  refine ⟨by unfold Pv.thaw; rw [List.length_map]; exact r.len, fun i x e => ?_⟩
  unfold Pv.thaw at e
  rw [List.getElem?_map] at e
  cases h : σp[i]? with
  | none => simp [h] at e
  | some s =>
    rw [h] at e
    cases s with
    | val y =>
      simp only [Option.map_some, thaw1, Option.some.injEq] at e
      subst e
      obtain ⟨v, h1, h2⟩ := r.val i y h
      exact ⟨v, h1, h2.mono o1⟩
    | own ys =>
      simp only [Option.map_some, thaw1, Option.some.injEq] at e
      subst e
      obtain ⟨h1, h2, h3, vs, h4, h5⟩ := r.own i ys h
      exact ⟨_, h1, .lst (.inl (.inl (by rw [opened_in h rfl]; exact h4))) (h5.mono o1)⟩
    | emp => simp [thaw1] at e
/-- given back: what is flat stays -/
theorem SRel.back {FB' : Hp} (r : SRel K H0 F0 F ad σp σ H) (g : Grow (opened (fun _ => true) σp ad F H) H FB' H') :
    ∃ F', Grow F H F' H' ∧ ∀ v x, x.flat = true → Rep K FB' v x → Rep K F' v x := by
  obtain ⟨o1, o2⟩ := r.opens fun _ => true
  have own : ∀ p, (∃ i xs, σp[i]? = some (.own xs) ∧ (fun _ : Nat => true) i = true ∧ ad i = p) → F p = none ∧ ∃ vs, H p = some (.lst vs) := by
    rintro p ⟨i, xs, h, _, rfl⟩
    obtain ⟨_, _, h3, vs, h4, _⟩ := r.own i xs h
    exact ⟨h3, vs, h4⟩
  refine ⟨fun p => if ∃ i xs, σp[i]? = some (.own xs) ∧ (fun _ : Nat => true) i = true ∧ ad i = p then none else FB' p, ⟨fun b o e => ?_, g.h, fun b o e => ?_, fun p h1 h2 => ?_⟩, fun v x f rx => ?_⟩
  · have hn : ¬ ∃ i xs, σp[i]? = some (.own xs) ∧ (fun _ : Nat => true) i = true ∧ ad i = b := fun z => by rw [(own b z).1] at e; cases e
    show (if _ then _ else _) = _
    rw [if_neg hn]
    exact g.f _ _ (o1 _ _ e)
  · have e : (if ∃ i xs, σp[i]? = some (.own xs) ∧ (fun _ : Nat => true) i = true ∧ ad i = b then none else FB' b) = some o := e
    split at e
    · cases e
    · exact g.in_ _ _ e
  · show (if _ then _ else _) = _
    split
    · rfl
    · rename_i hn
      refine g.new p h1 ?_
      rw [opened_out hn]
      exact h2
  · refine rx.tups (fun a vs h => ?_) f
    have hn : ¬ ∃ i xs, σp[i]? = some (.own xs) ∧ (fun _ : Nat => true) i = true ∧ ad i = a := fun z => by
      obtain ⟨_, us, hu⟩ := own a z
      have hu' := g.h _ _ hu
      rcases h with h | ⟨o, h⟩ <;>
      · have := g.in_ _ _ h
        rw [hu'] at this
        cases this
    rcases h with h | ⟨o, h⟩
    · left
      show (if _ then _ else _) = _
      rw [if_neg hn]
      exact h
    · refine .inr ⟨o, ?_⟩
      show (if _ then _ else _) = _
      rw [if_neg hn]
      exact h
end

section
variable {c : Cc} {sc : Scope} {asg : Str → Bool}
/-- an expression in a frame -/
def EvF (c : Cc) (t : TE) (σp : Fm) (x : PV) (o : Bool) (σp' : Fm) : Prop := (∀ (i : Nat) xs, σp'[i]? = some (.own xs) → σp[i]? = some (.own xs)) ∧ ∀ H0 F0 F ad σ H, SRel c.K H0 F0 F ad σp σ H → ∀ Q : VK,
  (∀ v F' H', SRel c.K H0 F0 F' ad σp' σ H' → Same H H' → Res c.K H F' H' v x o → Q v H') → t σ H Q
theorem frz_flat {x : PV} {o : Bool} {H F' H' : Hp} {v : V} {K : PySem.W.Frag} (f : x.flat = true) (r : Res K H F' H' v x o) : o = false := by
  cases o with
  | false => rfl
  | true =>
    unfold Res at r
    rw [if_pos rfl] at r
    obtain ⟨_, _, _, rfl, _⟩ := r
    unfold PV.flat at f
    cases f
theorem top_ok {b0 : Bool} {e : PySem.Expr} {f : Sl → PySem.Expr → Out} {t : TE} (h : ∀ σp x own, f σp e = some (x, own) → EvE c.K t σp x own) {σp σp' : Fm} {x : PV} {o : Bool} (q : evTop b0 c.N f σp e = some (x, o, σp')) : EvF c t σp x o σp' := by
  unfold evTop at q
  split at q
  · split at q
    · obtain ⟨p2, e2, q⟩ := Option.bind_eq_some_iff.mp q
      cases q
      refine ⟨fun _ _ h => (freeze_own h).1, fun H0 F0 F ad σ H r Q k => ?_⟩
      have r2 := r.freeze (fun i => match c.N[i]? with | some x => (occ 30 e).any (· == x) | none => false)
      exact h _ _ _ e2 _ H σ r2.g.in_ r2.vis Q fun v F' H' g res => k v F' H' (r2.grow g) g.h res
    · obtain ⟨p, e1, q⟩ := Option.bind_eq_some_iff.mp q
      split at q
      · rename_i hf
        cases q
        refine ⟨fun _ _ h => h, fun H0 F0 F ad σ H r Q k => ?_⟩
        obtain ⟨o1, o2⟩ := r.opens fun _ => true
        refine (h _ p.1 p.2 e1).s _ H σ o2 r.thaw Q fun v FB H' g rx => ?_
        obtain ⟨F', g', back⟩ := r.back g
        exact k v F' H' (r.grow g') g'.h (.of (back v _ hf rx))
      · cases q
  · obtain ⟨p, e1, q⟩ := Option.bind_eq_some_iff.mp q
    cases q
    refine ⟨fun _ _ h => h, fun H0 F0 F ad σ H r Q k => ?_⟩
    exact h _ _ _ e1 F H σ r.g.in_ r.vis Q fun v F' H' g res => k v F' H' (r.grow g) g.h res
/-- its value shared -/
theorem EvF.s {t : TE} {σp σp' : Fm} {x : PV} {o : Bool} (h : EvF c t σp x o σp') : ∀ H0 F0 F ad σ H, SRel c.K H0 F0 F ad σp σ H → ∀ Q : VK, (∀ v F' H', SRel c.K H0 F0 F' ad σp' σ H' → Same H H' → Rep c.K F' v x → Q v H') → t σ H Q := by
  intro H0 F0 F ad σ H r Q k
  refine h.2 H0 F0 F ad σ H r Q fun v F' H' r' s res => ?_
  cases o with
  | false =>
    unfold Res at res
    rw [if_neg Bool.false_ne_true] at res
    exact k v F' H' r' s res
  | true =>
    unfold Res at res
    rw [if_pos rfl] at res
    obtain ⟨p, vs, xs, rfl, rfl, h1, h2, h3, rr⟩ := res
    have s1 : Same F' (upd F' p (.lst vs)) := same_upd h2
    refine k _ (upd F' p (.lst vs)) H' ⟨⟨r'.g.f.trans s1, r'.g.h, fun b u q => ?_, fun q z1 z2 => ?_⟩, r'.len, fun i x e => ?_, fun i xs e => ?_, r'.inj⟩ s (.lst (.inl (.inl upd_same)) (rr.mono s1))
    · by_cases hb : b = p
      · subst hb; rw [upd_same] at q; cases q; exact h3
      · rw [upd_ne hb] at q; exact r'.g.in_ b u q
    · have : q ≠ p := fun z => by
        rw [z] at z1
        exact z1 (r.g.h.free h1)
      rw [upd_ne this]; exact r'.g.new q z1 z2
    · obtain ⟨v, a1, a2⟩ := r'.val i x e
      exact ⟨v, a1, a2.mono s1⟩
    · obtain ⟨a1, a2, a3, us, a4, a5⟩ := r'.own i xs e
      refine ⟨a1, a2, ?_, us, a4, a5.mono s1⟩
      have : ad i ≠ p := fun z => by
        obtain ⟨_, _, _, vs', b4, _⟩ := r.own i xs (h.1 i xs e)
        rw [z, h1] at b4
        cases b4
      rw [upd_ne this]; exact a3
end
end Pv

/-! Part M: statements -/
namespace Pv
open PySem L2 PySem.Spec PyProof.Rows

theorem any_star : ∀ {l : List PySem.Expr}, (∀ e ∈ l, ∀ a p, e ≠ .Starred a p) → (l.any fun | .Starred .. => true | _ => false) = false
  | [], _ => rfl
  | e :: l, h => by
    rw [List.any_cons, any_star fun e' he => h e' (List.mem_cons_of_mem _ he), Bool.or_false]
    have := h e (List.mem_cons_self ..)
    cases e <;> first | rfl | exact absurd rfl (this _ _)
theorem swapped_two {env : Env} {x y : Str} {px py pt pt2 : Pos} {kt k2 : Nat} {a b : PySem.Expr} (kb : env.blockKind = .function) (kx : env.kindOf x = some .local) (ky : env.kindOf y = some .local) (hl : py.line = px.line) (hne : ¬ x = y)
    (hs : ∀ e ∈ [a, b], ∀ a p, e ≠ .Starred a p) (hf : [a, b].all (foldedForSure 8) = false) (hk : [a, b].all (constantsAlone 8) = false) :
    swappedStores [.Tuple [.Name x px, .Name y py] kt pt] (.Tuple [a, b] k2 pt2) env = pure (some [x, y]) := by
  have l1 : (y == x) = false := by simpa using fun e : y = x => hne e.symm
  have l2 : (x == y) = false := by simpa using hne
  have g2 := any_star hs
  have hn : List.filterMap (fun e : PySem.Expr => match e with
      | .Name id pos => if (env.kindOf id == some .local && pos.line == px.line) = true then some id else none
      | _ => none) [.Name x px, .Name y py] = [x, y] := by
    simp [List.filterMap_cons, kx, ky, hl]
  have g3 : ([x, y].length != [Expr.Name x px, Expr.Name y py].length || [x, y].eraseDups.length != [x, y].length) = false := by
    have : [x, y].eraseDups = [x, y] := by
      simp [List.eraseDups, List.eraseDupsBy, List.eraseDupsBy.loop, l1, l2]
    rw [this]
    rfl
  unfold swappedStores
  simp only [kb]
  refine Eq.trans (if_neg (fun h => Bool.false_ne_true h)) ?_
  refine Eq.trans (if_neg (fun h => Bool.false_ne_true (g2.symm.trans h))) ?_
  have g4 : ∀ l : List Str, l = [x, y] → (l.length != [Expr.Name x px, Expr.Name y py].length || l.eraseDups.length != l.length) = false := fun l e => by rw [e]; exact g3
  refine Eq.trans (if_neg (fun h => Bool.false_ne_true ((g4 _ hn).symm.trans h))) ?_
  refine Eq.trans (if_neg (fun h => Bool.false_ne_true (hf.symm.trans h))) ?_
  refine Eq.trans (if_neg (fun h => Bool.false_ne_true (hk.symm.trans h))) ?_
  exact congrArg (fun l => pure (some l)) hn

structure SOk (c : Cc) (sc : Scope) (X : Cx) : Prop where
  cx : CxOk c sc (fun _ => true) X
  xe : X.xe = fun _ _ => False
  kind : sc.kind = .function
def FlowOk (K : PySem.W.Frag) (H0 F0 : Hp) : Fl → Ends → Prop
  | .nx σp, D => ∀ F ad σ H, SRel K H0 F0 F ad σp σ H → D.nx σ H
  | .bk σp, D => ∀ F ad σ H, SRel K H0 F0 F ad σp σ H → D.bk σ H
  | .ct σp, D => ∀ F ad σ H, SRel K H0 F0 F ad σp σ H → D.ct σ H
  | .rt x o, D => ∀ F H v, Grow F0 H0 F H → Res K H0 F H v x o → D.rt v H
def SS (c : Cc) (sc : Scope) (st : Stmt) (f : Fm → Option Fl) : Prop := ∃ t : TS, (∀ X, SOk c sc X → PS X st t) ∧ ∀ σp fl, f σp = some fl → ∀ H0 F0 F ad σ H D, SRel c.K H0 F0 F ad σp σ H → FlowOk c.K H0 F0 fl D → t D σ H
def SSs (c : Cc) (sc : Scope) (st : List Stmt) (f : Fm → Option Fl) : Prop := ∃ t : TS, (∀ X, SOk c sc X → PSs X st t) ∧ ∀ σp fl, f σp = some fl → ∀ H0 F0 F ad σ H D, SRel c.K H0 F0 F ad σp σ H → FlowOk c.K H0 F0 fl D → t D σ H
theorem SS.none {c : Cc} {sc : Scope} {st : Stmt} : SS c sc st fun _ => none := ⟨tNever, fun _ _ => ps_never, fun _ _ h => nomatch h⟩
theorem SS.congr {c : Cc} {sc : Scope} {st : Stmt} {f g : Fm → Option Fl} (h : SS c sc st f) (q : ∀ σ, g σ = f σ) : SS c sc st g :=
  let ⟨t, a, b⟩ := h; ⟨t, a, fun σp fl e => b σp fl (by rw [← q]; exact e)⟩

section
variable {K : PySem.W.Frag} {H0 F0 F H F' H' : Hp} {ad : Nat → Addr} {σp σp' : Fm} {σ : L2.St}
theorem SRel.rebase (r : SRel K H0 F0 F ad σp σ H) : SRel K H0 F F ad σp σ H := ⟨⟨Same.refl _, r.g.h, r.g.in_, fun _ _ h => h⟩, r.len, r.val, r.own, r.inj⟩
theorem SRel.join {F1 H1 : Hp} {ad1 : Nat → Addr} {σp1 : Fm} {σ1 : L2.St} (r1 : SRel K H0 F0 F1 ad1 σp1 σ1 H1) (r : SRel K H0 F1 F ad σp σ H) : SRel K H0 F0 F ad σp σ H :=
  ⟨⟨r1.g.f.trans r.g.f, r.g.h, r.g.in_, fun p h1 h2 => r.g.new p h1 (r1.g.new p h1 h2)⟩, r.len, r.val, r.own, r.inj⟩
theorem SRel.setVal {i : Nat} {v : V} {x : PV} (r : SRel K H0 F0 F ad σp σ H) (hx : Rep K F v x) : SRel K H0 F0 F ad (σp.set i (.val x)) (σ.set i (some v)) H := by
  have get : ∀ (j : Nat) s, (σp.set i (.val x))[j]? = some s → (j = i ∧ i < σp.length ∧ s = .val x) ∨ (j ≠ i ∧ σp[j]? = some s) := fun j s e => by
    by_cases hj : i = j
    · subst hj
      by_cases hl : i < σp.length
      · rw [List.getElem?_set_self hl] at e
        cases e
        exact .inl ⟨rfl, hl, rfl⟩
      · rw [List.getElem?_eq_none (by rw [List.length_set]; omega)] at e
        cases e
    · rw [List.getElem?_set_ne hj] at e
      exact .inr ⟨fun z => hj z.symm, e⟩
  refine ⟨r.g, by rw [List.length_set, List.length_set]; exact r.len, fun j y e => ?_, fun j xs e => ?_, fun j k xs ys e1 e2 => ?_⟩
  · rcases get j _ e with ⟨rfl, hl, h⟩ | ⟨hj, h⟩
    · cases h
      exact ⟨v, List.getElem?_set_self (by rw [← r.len]; exact hl), hx⟩
    · rw [List.getElem?_set_ne (fun z => hj z.symm)]
      exact r.val j y h
  · rcases get j _ e with ⟨_, _, h⟩ | ⟨hj, h⟩
    · cases h
    · rw [List.getElem?_set_ne (fun z => hj z.symm)]
      exact r.own j xs h
  · rcases get j _ e1 with ⟨_, _, h⟩ | ⟨_, h1⟩
    · cases h
    · rcases get k _ e2 with ⟨_, _, h⟩ | ⟨_, h2⟩
      · cases h
      · exact r.inj j k xs ys h1 h2
theorem SRel.setOwn {i : Nat} {p : Addr} {vs : List V} {xs : List PV} (r : SRel K H0 F0 F ad σp σ H) (h0 : H0 p = none) (hf : F p = none) (hp : H p = some (.lst vs)) (hx : Reps K F vs xs) (hn : ∀ j ys, σp[j]? = some (.own ys) → ad j ≠ p) :
    SRel K H0 F0 F (fun j => if j = i then p else ad j) (σp.set i (.own xs)) (σ.set i (some (.ref p))) H := by
  have get : ∀ (j : Nat) s, (σp.set i (.own xs))[j]? = some s → (j = i ∧ i < σp.length ∧ s = .own xs) ∨ (j ≠ i ∧ σp[j]? = some s) := fun j s e => by
    by_cases hj : i = j
    · subst hj
      by_cases hl : i < σp.length
      · rw [List.getElem?_set_self hl] at e
        cases e
        exact .inl ⟨rfl, hl, rfl⟩
      · rw [List.getElem?_eq_none (by rw [List.length_set]; omega)] at e
        cases e
    · rw [List.getElem?_set_ne hj] at e
      exact .inr ⟨fun z => hj z.symm, e⟩
  refine ⟨r.g, by rw [List.length_set, List.length_set]; exact r.len, fun j y e => ?_, fun j ys e => ?_, fun j k ys zs e1 e2 => ?_⟩
  · rcases get j _ e with ⟨_, _, h⟩ | ⟨hj, h⟩
    · cases h
    · rw [List.getElem?_set_ne (fun z => hj z.symm)]
      exact r.val j y h
  · rcases get j _ e with ⟨rfl, hl, h⟩ | ⟨hj, h⟩
    · cases h
      simp only [if_true]
      exact ⟨List.getElem?_set_self (by rw [← r.len]; exact hl), h0, hf, vs, hp, hx⟩
    · simp only [hj, if_false]
      rw [List.getElem?_set_ne (fun z => hj z.symm)]
      exact r.own j ys h
  · intro he
    rcases get j _ e1 with ⟨rfl, _, _⟩ | ⟨hj, h1⟩
    · rcases get k _ e2 with ⟨rfl, _, _⟩ | ⟨hk, h2⟩
      · rfl
      · simp only [if_true, hk, if_false] at he
        exact absurd he.symm (hn k zs h2)
    · rcases get k _ e2 with ⟨rfl, _, _⟩ | ⟨hk, h2⟩
      · simp only [if_true, hj, if_false] at he
        exact absurd he (hn j ys h1)
      · simp only [hj, hk, if_false] at he
        exact r.inj j k ys zs h1 h2 he
/-- one's own list is changed -/
theorem SRel.change {i : Nat} {vs : List V} {xs ys : List PV} (r : SRel K H0 F0 F ad σp σ H) (hi : σp[i]? = some (.own xs)) (hx : Reps K F vs ys) :
    SRel K H0 F0 F ad (σp.set i (.own ys)) σ (upd H (ad i) (.lst vs)) := by
  have hl : i < σp.length := (List.getElem?_eq_some_iff.mp hi).1
  obtain ⟨a1, a2, a3, us, a4, a5⟩ := r.own i xs hi
  have get : ∀ (j : Nat) s, (σp.set i (.own ys))[j]? = some s → (j = i ∧ s = .own ys) ∨ (j ≠ i ∧ σp[j]? = some s) := fun j s e => by
    by_cases hj : i = j
    · subst hj
      rw [List.getElem?_set_self hl] at e
      cases e
      exact .inl ⟨rfl, rfl⟩
    · rw [List.getElem?_set_ne hj] at e
      exact .inr ⟨fun z => hj z.symm, e⟩
  have old : ∀ (j : Nat) zs, (σp.set i (.own ys))[j]? = some (.own zs) → ∃ zs', σp[j]? = some (.own zs') := fun j zs e => by
    rcases get j _ e with ⟨rfl, _⟩ | ⟨_, h⟩
    · exact ⟨xs, hi⟩
    · exact ⟨zs, h⟩
  refine ⟨⟨r.g.f, fun b o e => ?_, fun b o e => ?_, r.g.new⟩, by rw [List.length_set]; exact r.len, fun j y e => ?_, fun j zs e => ?_, fun j k zs ws e1 e2 he => ?_⟩
  · rw [upd_ne (ne_of_none e a2)]
    exact r.g.h _ _ e
  · rw [upd_ne (ne_of_none e a3)]
    exact r.g.in_ _ _ e
  · rcases get j _ e with ⟨_, h⟩ | ⟨_, h⟩
    · cases h
    · exact r.val j y h
  · rcases get j _ e with ⟨rfl, h⟩ | ⟨hj, h⟩
    · cases h
      exact ⟨a1, a2, a3, vs, upd_same, hx⟩
    · obtain ⟨b1, b2, b3, ws, b4, b5⟩ := r.own j zs h
      refine ⟨b1, b2, b3, ws, ?_, b5⟩
      rw [upd_ne (fun z => hj (r.inj j i zs xs h hi z))]
      exact b4
  · obtain ⟨zs', h1⟩ := old j zs e1
    obtain ⟨ws', h2⟩ := old k ws e2
    exact r.inj j k zs' ws' h1 h2 he
theorem SRel.app : ∀ {ws : List (Nat × V)} {us : List (Nat × PV)} {σp : Fm} {σ : L2.St}, URel K F ws us → SRel K H0 F0 F ad σp σ H → SRel K H0 F0 F ad (appF us σp) (appV ws σ) H
  | _, _, _, _, .nil, h => h
  | p :: ws, q :: us, σp, σ, .cons a r, h => by
    unfold appF appV
    rw [a.1]
    exact SRel.app r (h.setVal a.2)
/-- behind an expression: its value, or the list of one's own that it has made, is laid into a slot -/
theorem SRel.store {i : Nat} {v : V} {x : PV} {o : Bool} (r0 : SRel K H0 F0 F ad σp σ H) (hown : ∀ (i : Nat) xs, σp'[i]? = some (.own xs) → σp[i]? = some (.own xs)) (r : SRel K H0 F0 F' ad σp' σ H') (res : Res K H F' H' v x o) :
    ∃ ad', SRel K H0 F0 F' ad' (σp'.set i (slotOf x o)) (σ.set i (some v)) H' := by
  cases o with
  | false =>
    unfold Res at res
    rw [if_neg Bool.false_ne_true] at res
    exact ⟨ad, r.setVal res⟩
  | true =>
    unfold Res at res
    rw [if_pos rfl] at res
    obtain ⟨p, vs, xs, rfl, rfl, h1, h2, h3, rr⟩ := res
    refine ⟨_, r.setOwn (r0.g.h.free h1) h2 h3 rr fun j ys hj => ?_⟩
    rintro rfl
    obtain ⟨_, _, _, us, b4, _⟩ := r0.own j ys (hown j ys hj)
    rw [h1] at b4
    cases b4
end

section
variable {c : Cc} {sc : Scope}
/-- blocks -/
theorem sss_of {f : Fm → Stmt → Option Fl} : ∀ {l : List Stmt}, (∀ s ∈ l, SS c sc s fun σ => f σ s) → SSs c sc l fun σ => exL f l σ
  | [], _ => ⟨tNext, fun _ _ => pss_nil, fun σp fl h H0 F0 F ad σ H D r k => by
      simp only [exL] at h
      cases h
      exact k F ad σ H r⟩
  | [s], h => by
    obtain ⟨t, a, b⟩ := h s (List.mem_cons_self ..)
    exact ⟨t, fun X x => pss_one (a X x), fun σp fl e => b σp fl (by simp only [exL] at e; exact e)⟩
  | s :: s' :: l, h => by
    obtain ⟨t, a, b⟩ := h s (List.mem_cons_self ..)
    obtain ⟨u, a2, b2⟩ := sss_of (f := f) (l := s' :: l) fun x hx => h x (List.mem_cons_of_mem _ hx)
    refine ⟨tSeq t u, fun X x => pss_cons (a X x) (a2 X x), fun σp fl e H0 F0 F ad σ H D r k => ?_⟩
    simp only [exL] at e
    obtain ⟨g, e1, e2⟩ := Option.bind_eq_some_iff.mp e
    show t { D with nx := u D } σ H
    refine b σp g e1 H0 F0 F ad σ H _ r ?_
    cases g with
    | nx σ1 => exact fun F1 ad1 σ2 H1 r1 => b2 σ1 fl e2 H0 F0 F1 ad1 σ2 H1 D r1 k
    | bk σ1 => simp only [thenF] at e2; cases e2; exact k
    | ct σ1 => simp only [thenF] at e2; cases e2; exact k
    | rt x o => simp only [thenF] at e2; cases e2; exact k
theorem ss_ret {e : PySem.Expr} {pos : Pos} {g : Fm → Option (PV × Bool × Fm)} {t : TE} (h1 : ∀ X, SOk c sc X → PE X e t) (h2 : ∀ σp x o σp', g σp = some (x, o, σp') → EvF c t σp x o σp') : SS c sc (.Return (some e) pos) fun σ => (g σ).bind fun p => some (.rt p.1 p.2.1) := by
  refine ⟨tRet t, fun X x => ps_ret (h1 X x), fun σp fl q H0 F0 F ad σ H D r k => ?_⟩
  obtain ⟨⟨x, o, σp'⟩, e1, q⟩ := Option.bind_eq_some_iff.mp q
  cases q
  exact (h2 σp x o σp' e1).2 H0 F0 F ad σ H r _ fun v F' H' r' s res => k F' H' v r'.g (res.mono r.g.h)
theorem storeN_of {x : Str} {s : Slot} {σ σ' : Fm} (h : storeN c.N sc x s σ = some σ') : ∃ i, idx c.N x = some i ∧ locB sc x = true ∧ σ' = σ.set i s := by
  unfold storeN at h
  obtain ⟨i, e1, h⟩ := Option.bind_eq_some_iff.mp h
  split at h
  · cases h
    exact ⟨i, e1, by assumption, rfl⟩
  · cases h
theorem swaps_no {e : PySem.Expr} (h : isComp e = false) (tg : Option PySem.Expr) (line : Nat) (env : Env) : swapsWith e tg line env = pure false := by
  cases e <;> first | rfl | (simp [isComp] at h)
theorem ss_set (m : Bool) {x : Str} {px : Pos} {e : PySem.Expr} {pos : Pos} {g : Fm → Option (PV × Bool × Fm)} {t : TE} (nd : c.N.Nodup) (h1 : ∀ X, SOk c sc X → PE X e t) (h2 : ∀ σp x o σp', g σp = some (x, o, σp') → EvF c t σp x o σp')
    (h3 : isComp e = false ∨ ∀ X, SOk c sc X → ∀ i, X.N[i]? = some x → swapB sc x px e = true → PS X (.Assign [.Name x px] e pos) (tAsg t (gName i))) (h4 : isComp e = true → swapB sc x px e = true) :
    SS c sc (.Assign [.Name x px] e pos) fun σ => (g σ).bind fun p => (storeN c.N sc x (slotOf p.1 (m && p.2.1)) p.2.2).map .nx := by
  by_cases hn : ∃ i, idx c.N x = some i ∧ locB sc x = true
  · obtain ⟨i, hi, hl⟩ := hn
    refine ⟨tAsg t (gName i), fun X ok => ?_, fun σp fl q H0 F0 F ad σ H D r k => ?_⟩
    · rcases h3 with h3 | h3
      · refine ps_set (by rw [ok.cx.N]; exact nd) (by rw [ok.cx.N]; exact idx_get hi) (by rw [ok.cx.sc]; exact loc_of hl) (h1 X ok) (swaps_no h3 _ _ _) (ok.cx.as x rfl)
      · by_cases hc : isComp e = true
        · exact h3 X ok i (by rw [ok.cx.N]; exact idx_get hi) (h4 hc)
        · exact ps_set (by rw [ok.cx.N]; exact nd) (by rw [ok.cx.N]; exact idx_get hi) (by rw [ok.cx.sc]; exact loc_of hl) (h1 X ok) (swaps_no (by simpa using hc) _ _ _) (ok.cx.as x rfl)
    · obtain ⟨⟨y, o, σp'⟩, e1, q⟩ := Option.bind_eq_some_iff.mp q
      obtain ⟨σ2, e2, rfl⟩ := Option.map_eq_some_iff.mp q
      obtain ⟨i', b1, b2, rfl⟩ := storeN_of e2
      rw [hi] at b1
      cases b1
      have ev := h2 σp y o σp' e1
      cases m with
      | true =>
        refine ev.2 H0 F0 F ad σ H r _ fun v F' H' r' s res => ?_
        obtain ⟨ad', r2⟩ := SRel.store (i := i) r ev.1 r' res
        exact k F' ad' _ H' r2
      | false => exact ev.s H0 F0 F ad σ H r _ fun v F' H' r' s rx => k F' ad _ H' (r'.setVal rx)
  · refine ⟨tNever, fun _ _ => ps_never, fun σp fl q => ?_⟩
    obtain ⟨⟨y, o, σp'⟩, e1, q⟩ := Option.bind_eq_some_iff.mp q
    obtain ⟨σ2, e2, rfl⟩ := Option.map_eq_some_iff.mp q
    obtain ⟨i', b1, b2, _⟩ := storeN_of e2
    exact absurd ⟨i', b1, b2⟩ hn
theorem ss_tup {ts : List PySem.Expr} {kt : Nat} {pt pos : Pos} {e : PySem.Expr} {g : Fm → Option (PV × Bool × Fm)} {t : TE} (nd : c.N.Nodup) (h1 : ∀ X, SOk c sc X → PE X e t) (h2 : ∀ σp x o σp', g σp = some (x, o, σp') → EvF c t σp x o σp')
    (hc : isComp e = false) (ht : isTup e = false) : SS c sc (.Assign [.Tuple ts kt pt] e pos) fun σ => (g σ).bind fun p => (updT c.N sc (fun _ => true) (.Tuple ts kt pt) p.1).map fun us => .nx (appF us p.2.2) := by
  obtain ⟨gt, g1, g2⟩ := sg (c := c) (sc := sc) (asg := fun _ => true) nd (.Tuple ts kt pt)
  refine ⟨tAsg t gt, fun X ok => ?_, fun σp fl q H0 F0 F ad σ H D r k => ?_⟩
  · refine ps_asg (h1 X ok) (g1 X ok.cx) (swaps_no hc (some (.Tuple ts kt pt)) pos.line X.env) ?_ rfl
    cases e <;> first | rfl | (simp [isTup] at ht)
  · obtain ⟨⟨y, o, σp'⟩, e1, q⟩ := Option.bind_eq_some_iff.mp q
    obtain ⟨us, e2, rfl⟩ := Option.map_eq_some_iff.mp q
    have ev := h2 σp y o σp' e1
    refine ev.s H0 F0 F ad σ H r _ fun v F' H' r' s rx => ?_
    exact g2 y us e2 F' H' v σ D.nx r'.g.in_ rx fun ws hw => k F' ad _ H' (r'.app hw)
theorem kind_ok {X : Cx} (ok : SOk c sc X) : X.env.blockKind = .function := by
  unfold Env.blockKind
  rw [ok.cx.sc, ok.kind]
  rfl
theorem ss_par {ts : List PySem.Expr} {kt k2 : Nat} {pt pt2 pos : Pos} {a b : PySem.Expr} {x y : Str} {ga gb : Fm → Option (PV × Bool × Fm)} {ta tb : TE} (nd : c.N.Nodup) (hp : parB sc ts [a, b] = some (x, y)) (ha : ∀ X, SOk c sc X → PE X a ta) (hb : ∀ X, SOk c sc X → PE X b tb)
    (ea : ∀ σp x o σp', ga σp = some (x, o, σp') → EvF c ta σp x o σp') (eb : ∀ σp x o σp', gb σp = some (x, o, σp') → EvF c tb σp x o σp') :
    SS c sc (.Assign [.Tuple ts kt pt] (.Tuple [a, b] k2 pt2) pos) fun σ => (ga σ).bind fun p => (gb p.2.2).bind fun q => (storeN c.N sc x (.val p.1) q.2.2).bind fun σ1 => (storeN c.N sc y (.val q.1) σ1).map .nx := by
  unfold parB at hp
  split at hp
  · rename_i a' b' x' px y' py a1 b1 he1
    split at hp
    · rename_i hc
      cases hp
      cases he1
      simp only [Bool.and_eq_true, decide_eq_true_eq, Bool.not_eq_true'] at hc
      obtain ⟨⟨⟨⟨⟨⟨lx, ly⟩, hline⟩, hne⟩, hst⟩, hf⟩, hk⟩ := hc
      have hne' : ¬ x = y := by simpa using hne
      have hs := starB_no hst
      by_cases hn : (∃ i, idx c.N x = some i) ∧ ∃ j, idx c.N y = some j
      · obtain ⟨⟨i, hi⟩, ⟨j, hj⟩⟩ := hn
        have hij : i ≠ j := fun z => hne' (by have h1 := idx_get hi; have h2 := idx_get hj; rw [z, h2] at h1; exact (Option.some.inj h1).symm)
        refine ⟨tPar i j (tCons ta (tCons tb tNil)), fun X ok => ?_, fun σp fl q H0 F0 F ad σ H D r k => ?_⟩
        · have kx : X.env.kindOf x = some .local := by show X.env.scope.names.lookup x = _; rw [ok.cx.sc]; exact lx
          have ky : X.env.kindOf y = some .local := by show X.env.scope.names.lookup y = _; rw [ok.cx.sc]; exact ly
          refine ps_par ok.cx.calm (by rw [ok.cx.N]; exact nd) (by rw [ok.cx.N]; exact idx_get hi) (by rw [ok.cx.N]; exact idx_get hj) hij (by rw [ok.cx.sc]; exact lx) (by rw [ok.cx.sc]; exact ly) (pa_cons (ha X ok) (pa_cons (hb X ok) pa_nil (star_of (hs b (by simp)))) (star_of (hs a (by simp)))) ?_ rfl
          exact swapped_two (kind_ok ok) kx ky (by simpa using hline) hne' hs hf hk
        · obtain ⟨⟨xa, oa, σ1⟩, e1, q⟩ := Option.bind_eq_some_iff.mp q
          obtain ⟨⟨xb, ob, σ2⟩, e2, q⟩ := Option.bind_eq_some_iff.mp q
          obtain ⟨σ3, e3, q⟩ := Option.bind_eq_some_iff.mp q
          obtain ⟨σ4, e4, rfl⟩ := Option.map_eq_some_iff.mp q
          obtain ⟨i', b1, _, rfl⟩ := storeN_of e3
          obtain ⟨j', b2, _, rfl⟩ := storeN_of e4
          rw [hi] at b1; cases b1
          rw [hj] at b2; cases b2
          refine (ea σp xa oa σ1 e1).s H0 F0 F ad σ H r _ fun v F1 H1 r1 s1 rx => ?_
          refine (eb σ1 xb ob σ2 e2).s H0 F1 F1 ad σ H1 r1.rebase _ fun w F2 H2 r2 s2 ry => ?_
          exact ⟨v, w, rfl, k F2 ad _ H2 (((r1.join r2).setVal (rx.mono r2.g.f)).setVal ry)⟩
      · refine ⟨tNever, fun _ _ => ps_never, fun σp fl q => ?_⟩
        obtain ⟨_, _, q⟩ := Option.bind_eq_some_iff.mp q
        obtain ⟨_, _, q⟩ := Option.bind_eq_some_iff.mp q
        obtain ⟨σ3, e3, q⟩ := Option.bind_eq_some_iff.mp q
        obtain ⟨σ4, e4, rfl⟩ := Option.map_eq_some_iff.mp q
        obtain ⟨i', b1, _, _⟩ := storeN_of e3
        obtain ⟨j', b2, _, _⟩ := storeN_of e4
        exact absurd ⟨⟨_, b1⟩, ⟨_, b2⟩⟩ hn
    · cases hp
  · cases hp

/-! ### a list of one's own: append, pop, an item -/
theorem own_ty {K : PySem.W.Frag} {H0 F0 F H : Hp} {ad : Nat → Addr} {σp : Fm} {σ : L2.St} {i : Nat} {xs : List PV} (r : SRel K H0 F0 F ad σp σ H) (h : σp[i]? = some (.own xs)) : tyV K "list" (.ref (ad i)) H := by
  obtain ⟨_, _, _, vs, h4, _⟩ := r.own i xs h
  exact .inl ⟨rfl, vs, .inl (.inl h4)⟩
theorem ss_append {x : Str} {px pa pos epos : Pos} {a : PySem.Expr} {i : Nat} {g : Fm → Option (PV × Bool × Fm)} {t : TE} (hi : idx c.N x = some i) (h0 : okNm x = true) (hv : visB sc x = true) (hs : starB [a] = false) (hln : (pa.endLine == pos.line) = true) (h1 : ∀ X, SOk c sc X → PE X a t) (h2 : ∀ σp x o σp', g σp = some (x, o, σp') → EvF c t σp x o σp') :
    SS c sc (.Expr (.Call (.Attribute (.Name x px) "append" pa) [a] [] pos) epos) fun σ => (match σ[i]? with
        | some (.own _) => (g σ).bind fun p => (match p.2.2[i]? with
              | some (.own xs) => if xs.length < big then some (.nx (p.2.2.set i (.own (xs ++ [p.1])))) else none
              | _ => none)
        | _ => none) := by
  obtain ⟨d1, d2⟩ := okNm_d h0
  refine ⟨tDrop (tBM c.K "list" rAppend (tVar i) (tCons t tNil)), fun X ok => ?_, fun σp fl q H0 F0 F ad σ H D r k => ?_⟩
  · refine ps_expr ?_ (by rfl)
    rw [← ok.cx.K]
    exact pe_bm PySem.F.plainAttrs_list PySem.F.slot_list_append PySem.F.type_list_append mt_append (pe_var (by rw [ok.cx.N]; exact idx_get hi) (by rw [ok.cx.sc]; exact vis_of hv) d1 d2)
      (pa_cons (h1 X ok) pa_nil (star_of (starB_no hs a (List.mem_cons_self ..)))) rfl (by rw [star_of (starB_no hs a (List.mem_cons_self ..))]; rfl) hln (star_of (starB_no hs a (List.mem_cons_self ..))) rfl
  · dsimp only at q
    split at q
    · rename_i ys hy
      obtain ⟨⟨y, o, σp'⟩, e1, q⟩ := Option.bind_eq_some_iff.mp q
      simp only at q
      split at q
      · rename_i xs hx
        split at q
        · rename_i hl
          cases q
          have ev := h2 σp y o σp' e1
          refine ⟨_, (r.own i ys hy).1, own_ty r hy, ?_⟩
          refine ev.s H0 F0 F ad σ H r _ fun v F' H' r' s rx => ?_
          obtain ⟨_, _, _, vs, b4, b5⟩ := r'.own i xs hx
          refine ⟨ad i, vs, v, rfl, rfl, b4, ?_, ?_⟩
          · rw [b5.length]
            exact Nat.lt_of_lt_of_le hl big_line
          · exact k F' ad σ _ (r'.change hx (b5.append (.cons rx .nil)))
        · cases q
      · cases q
    · cases q
theorem ss_pop {x : Str} {px pa pos epos : Pos} {i : Nat} (hi : idx c.N x = some i) (h0 : okNm x = true) (hv : visB sc x = true) (hln : (pa.endLine == pos.line) = true) :
    SS c sc (.Expr (.Call (.Attribute (.Name x px) "pop" pa) [] [] pos) epos) fun σ => (match σ[i]? with
        | some (.own xs) => if xs.isEmpty then none else some (.nx (σ.set i (.own xs.dropLast)))
        | _ => none) := by
  obtain ⟨d1, d2⟩ := okNm_d h0
  refine ⟨tDrop (tBM0 c.K "list" rPop (tVar i)), fun X ok => ?_, fun σp fl q H0 F0 F ad σ H D r k => ?_⟩
  · refine ps_expr ?_ (by rfl)
    rw [← ok.cx.K]
    exact pe_bm0 PySem.F.plainAttrs_list PySem.F.slot_list_pop PySem.F.type_list_pop mt_pop (pe_var (by rw [ok.cx.N]; exact idx_get hi) (by rw [ok.cx.sc]; exact vis_of hv) d1 d2) rfl hln
  · dsimp only at q
    split at q
    · rename_i xs hx
      split at q
      · cases q
      · rename_i hne
        cases q
        obtain ⟨b1, _, _, vs, b4, b5⟩ := r.own i xs hx
        refine ⟨_, b1, own_ty r hx, ?_⟩
        have hvs : vs ≠ [] := fun e => by subst e; cases b5; exact hne rfl
        have hl : vs.length - 1 < vs.length := by have := List.length_pos_iff.mpr hvs; omega
        exact ⟨ad i, vs, vs[vs.length - 1], rfl, rfl, b4, List.getElem?_eq_getElem hl, k F ad σ _ (r.change hx b5.dropLast)⟩
    · cases q
theorem ss_item {x : Str} {px ps pos : Pos} {ie e : PySem.Expr} {i : Nat} {g gi : Fm → Option (PV × Bool × Fm)} {t ti : TE} (hi : idx c.N x = some i) (h0 : okNm x = true) (hv : visB sc x = true) (hc : isComp e = false) (hsl : isSl ie = false) (h1 : ∀ X, SOk c sc X → PE X e t) (h2 : ∀ σp x o σp', g σp = some (x, o, σp') → EvF c t σp x o σp')
    (h3 : ∀ X, SOk c sc X → PE X ie ti) (h4 : ∀ σp x o σp', gi σp = some (x, o, σp') → EvF c ti σp x o σp') :
    SS c sc (.Assign [.Subscript (.Name x px) ie ps] e pos) fun σ => (g σ).bind fun p => (match p.2.2[i]? with
        | some (.own _) => (gi p.2.2).bind fun q => (match q.2.2[i]?, q.1 with
          | some (.own xs), .int k => (ixN xs.length k).map fun j => .nx (q.2.2.set i (.own (xs.set j p.1)))
          | _, _ => none)
        | _ => none) := by
  obtain ⟨d1, d2⟩ := okNm_d h0
  refine ⟨tAsg t (gSub (tVar i) ti rSetL), fun X ok => ?_, fun σp fl q H0 F0 F ad σ H D r k => ?_⟩
  · exact ps_asg (h1 X ok) (pg_sub (pe_var (by rw [ok.cx.N]; exact idx_get hi) (by rw [ok.cx.sc]; exact vis_of hv) d1 d2) (h3 X ok) set_list (by intro _; cases ie <;> first | rfl | (simp [isSl] at hsl))) (swaps_no hc (some (.Subscript (.Name x px) ie ps)) pos.line X.env) (by cases e <;> rfl) rfl
  · obtain ⟨⟨y, o, σp'⟩, e1, q⟩ := Option.bind_eq_some_iff.mp q
    simp only at q
    split at q
    · rename_i ys hy
      obtain ⟨⟨z, o2, σp2⟩, e2, q⟩ := Option.bind_eq_some_iff.mp q
      simp only at q
      split at q
      · rename_i xs n hx
        obtain ⟨j, e3, rfl⟩ := Option.map_eq_some_iff.mp q
        refine (h2 σp y o σp' e1).s H0 F0 F ad σ H r _ fun v F1 H1 r1 s1 rx => ?_
        refine ⟨_, (r1.own i ys hy).1, ?_⟩
        refine (h4 σp' _ o2 σp2 e2).s H0 F1 F1 ad σ H1 r1.rebase _ fun w F2 H2 r2 s2 ry => ?_
        cases ry
        obtain ⟨_, _, _, vs, b4, b5⟩ := r2.own i xs hx
        exact ⟨ad i, vs, n, j, rfl, rfl, b4, by rw [b5.length]; exact e3, k F2 ad σ _ ((r1.join r2).change hx (b5.set (rx.mono r2.g.f) j))⟩
      · cases q
    · cases q

/-! ### if, while, for -/
theorem tst_ok {e : PySem.Expr} {f : Sl → PySem.Expr → Option Bool} {t : TT} (h : ∀ σp b, f σp e = some b → EvT c.K t σp b) {σp : Fm} {b : Bool} (q : evTst f σp e = some b) :
    ∀ H0 F0 F ad σ H, SRel c.K H0 F0 F ad σp σ H → ∀ Q : Bool → Hp → Prop, (∀ F' H', SRel c.K H0 F0 F' ad σp σ H' → Q b H') → t σ H Q := by
  intro H0 F0 F ad σ H r Q k
  unfold evTst at q
  obtain ⟨o1, o2⟩ := r.opens fun _ => true
  refine h _ _ q _ H σ o2 r.thaw Q fun FB H' g => ?_
  obtain ⟨F', g', _⟩ := r.back g
  exact k F' H' (r.grow g')
theorem ss_if {cl : List (Nat × Bool)} {e : PySem.Expr} {a b : List Stmt} {pos : Pos} {f : Sl → PySem.Expr → Option Bool} {t : TT} {ga gb : Fm → Option Fl} (h1 : ∀ X, SOk c sc X → PT X e t) (h2 : ∀ σp b, f σp e = some b → EvT c.K t σp b) (ha : SSs c sc a ga) (hb : SSs c sc b gb) :
    SS c sc (.If e a b pos) fun σ => (evTst f σ e).bind fun k => (if k then ga σ else gb σ).map (clrF cl) := by
  obtain ⟨ta, a1, a2⟩ := ha
  obtain ⟨tb, b1, b2⟩ := hb
  refine ⟨tIfS t ta tb, fun X ok => ps_if (h1 X ok) (a1 X ok) (b1 X ok), fun σp fl q H0 F0 F ad σ H D r k => ?_⟩
  obtain ⟨v, e1, q⟩ := Option.bind_eq_some_iff.mp q
  obtain ⟨fl', e2, rfl⟩ := Option.map_eq_some_iff.mp q
  have k : FlowOk c.K H0 F0 fl' D := by
    cases fl' with
    | nx σ' => exact fun F ad σ H r => let ⟨F', r'⟩ := r.clr cl; k F' ad σ H r'
    | _ => exact k
  refine tst_ok h2 e1 H0 F0 F ad σ H r _ fun F' H' r' => ?_
  cases v with
  | true =>
    rw [if_pos rfl] at e2 ⊢
    exact a2 σp fl' e2 H0 F0 F' ad σ H' D r' k
  | false =>
    rw [if_neg Bool.false_ne_true] at e2 ⊢
    exact b2 σp fl' e2 H0 F0 F' ad σ H' D r' k
theorem never_of {X : Cx} (ok : SOk c sc X) : PassesOwn (model X.prog X.w) X.A X.env X.xe := by
  rw [ok.xe]
  exact PassesOwn.never
/-- a turn's end -/
theorem loop_end {K : PySem.W.Frag} {H0 F0 : Hp} {cl : List (Nat × Bool)} {g : Fl} {kf : Fm → Option Fl} {fl : Fl} {D : Ends} {N : L2.St → Hp → Prop} (h : loopF (clr cl) g kf = some fl) (k : FlowOk K H0 F0 fl D) (hn : ∀ σ1, kf σ1 = some fl → ∀ F ad σ H, SRel K H0 F0 F ad σ1 σ H → N σ H) :
    FlowOk K H0 F0 g { D with nx := N, ct := N, bk := D.nx } := by
  cases g with
  | nx σ1 => exact fun F ad σ H r => let ⟨F', r'⟩ := r.clr cl; hn _ h F' ad σ H r'
  | ct σ1 => exact fun F ad σ H r => let ⟨F', r'⟩ := r.clr cl; hn _ h F' ad σ H r'
  | bk σ1 => simp only [loopF] at h; cases h; exact fun F ad σ H r => let ⟨F', r'⟩ := r.clr cl; k F' ad σ H r'
  | rt x o => simp only [loopF] at h; cases h; exact k
theorem ss_while {cl : List (Nat × Bool)} {e : PySem.Expr} {a : List Stmt} {pos : Pos} {f : Sl → PySem.Expr → Option Bool} {t : TT} {ga : Fm → Option Fl} {W : Nat} (h1 : ∀ X, SOk c sc X → PT X e t) (h2 : ∀ σp b, f σp e = some b → EvT c.K t σp b) (ha : SSs c sc a ga) :
    SS c sc (.While e a [] pos) fun σ => whL (clr cl) (fun σ => evTst f σ e) ga W (clr cl σ) := by
  obtain ⟨ta, a1, a2⟩ := ha
  refine ⟨tWhile t ta, fun X ok => ps_while (never_of ok) (h1 X ok) (a1 X ok), fun σp fl q H0 F0 F ad σ H D r k => ?_⟩
  obtain ⟨F', r⟩ := r.clr cl
  refine ⟨fun m σ H => ∃ σp F ad, SRel c.K H0 F0 F ad σp σ H ∧ whL (clr cl) (fun σ => evTst f σ e) ga m σp = some fl, ⟨W, _, F', ad, r, q⟩, ?_⟩
  rintro m σ1 H1 ⟨σp1, F1, ad1, r1, q1⟩
  cases m with
  | zero => simp only [whL] at q1; cases q1
  | succ m =>
    simp only [whL] at q1
    obtain ⟨b, e1, q1⟩ := Option.bind_eq_some_iff.mp q1
    refine tst_ok h2 e1 H0 F0 F1 ad1 σ1 H1 r1 _ fun F' H' r' => ?_
    cases b with
    | true =>
      rw [if_pos rfl] at q1 ⊢
      obtain ⟨g, e2, q2⟩ := Option.bind_eq_some_iff.mp q1
      refine ⟨fun σ H => ∃ σp F ad, SRel c.K H0 F0 F ad σp σ H ∧ whL (clr cl) (fun σ => evTst f σ e) ga m σp = some fl, fun σ' H' h => ⟨m, Nat.lt_succ_self m, h⟩, ?_⟩
      exact a2 σp1 g e2 H0 F0 F' ad1 σ1 H' _ r' (loop_end q2 k fun σ2 e3 F ad σ H r => ⟨σ2, F, ad, r, e3⟩)
    | false =>
      rw [if_neg Bool.false_ne_true] at q1 ⊢
      cases q1
      exact k F' ad1 σ1 H' r'
theorem itr_ok {e : PySem.Expr} {f : Sl → PySem.Expr → Option (List PV)} {wi : TI} (h : ∀ σp xs, f σp e = some xs → EvI c.K wi σp xs) {σp σp' : Fm} {xs : List PV} (q : evItr c.N f σp e = some (xs, σp')) :
    ∀ H0 F0 F ad σ H, SRel c.K H0 F0 F ad σp σ H → ∀ R : It → Hp → Prop, (∀ J vs F' H', SRel c.K H0 F0 F' ad σp' σ H' → Reps c.K F' vs xs → ItOk J F' vs → R J H') → wi σ H R := by
  intro H0 F0 F ad σ H r R k
  unfold evItr at q
  split at q
  · obtain ⟨ys, e1, q⟩ := Option.bind_eq_some_iff.mp q
    cases q
    have r2 := r.freeze (fun i => match c.N[i]? with | some x => (occ 30 e).any (· == x) | none => false)
    exact h _ _ e1 _ H σ r2.g.in_ r2.vis R fun J vs F' H' g rs it => k J vs F' H' (r2.grow g) rs it
  · obtain ⟨ys, e1, q⟩ := Option.bind_eq_some_iff.mp q
    cases q
    exact h _ _ e1 F H σ r.g.in_ r.vis R fun J vs F' H' g rs it => k J vs F' H' (r.grow g) rs it
theorem ss_for {cl : List (Nat × Bool)} {tg it : PySem.Expr} {a : List Stmt} {pos : Pos} {f : Sl → PySem.Expr → Option (List PV)} {wi : TI} {ga : Fm → Option Fl} (nd : c.N.Nodup) (hf : ∀ env x, foldedSetIterable it env x = pure x) (h1 : ∀ X, SOk c sc X → PI X tg it wi) (h2 : ∀ σp xs, f σp it = some xs → EvI c.K wi σp xs) (ha : SSs c sc a ga) :
    SS c sc (.For tg it a [] pos) fun σ => (evItr c.N f σ it).bind fun p => forL (clr cl) (fun x σ => (updT c.N sc (fun _ => true) tg x).map fun us => appF us σ) ga p.1 (clr cl p.2) := by
  obtain ⟨ta, a1, a2⟩ := ha
  obtain ⟨gt, g1, g2⟩ := sg (c := c) (sc := sc) (asg := fun _ => true) nd tg
  refine ⟨tFor wi gt ta, fun X ok => ps_for (never_of ok) ok.cx.calm (h1 X ok) (g1 X ok.cx) (a1 X ok) (hf _), fun σp fl q H0 F0 F ad σ H D r k => ?_⟩
  obtain ⟨⟨items, σp1⟩, e1, q⟩ := Option.bind_eq_some_iff.mp q
  simp only at q
  generalize hb : (fun x σ => (updT c.N sc (fun _ => true) tg x).map fun us => appF us σ : PV → Fm → Option Fm) = bf at q
  refine itr_ok h2 e1 H0 F0 F ad σ H r _ fun J vs F1 H1 r1 rs it => ?_
  obtain ⟨F1', r1'⟩ := r1.rebase.clr cl
  refine ⟨fun i m σ H => m = vs.length - i ∧ i ≤ vs.length ∧ ∃ σp F ad, SRel c.K H0 F1 F ad σp σ H ∧ forL (clr cl) bf ga (items.drop i) σp = some fl, ⟨vs.length, by simp, Nat.zero_le _, _, F1', ad, r1', q⟩, ?_⟩
  rintro i m σ2 H2 ⟨rfl, hi, σp2, F2, ad2, r2, q2⟩
  obtain ⟨it1, it2⟩ := it H2 i (r2.g.f.trans r2.g.in_)
  by_cases hlt : i < vs.length
  · refine .inr ⟨(it1 hlt).1, fun σ H => i + 1 ≤ vs.length ∧ ∃ σp F ad, SRel c.K H0 F1 F ad σp σ H ∧ forL (clr cl) bf ga (items.drop (i + 1)) σp = some fl, fun σ' H' h => ⟨vs.length - (i + 1), by omega, rfl, h.1, h.2⟩, fun x H' hy => ?_⟩
    obtain ⟨rfl, hx⟩ := (it1 hlt).2 x H' hy
    obtain ⟨xi, hxi, rx⟩ := rs.getV hx
    have hd : items.drop i = xi :: items.drop (i + 1) := by
      obtain ⟨hl, e⟩ := List.getElem?_eq_some_iff.mp hxi
      rw [List.drop_eq_getElem_cons hl, e]
    rw [hd] at q2
    simp only [forL] at q2
    obtain ⟨σp3, e3, q3⟩ := Option.bind_eq_some_iff.mp q2
    obtain ⟨g, e4, q4⟩ := Option.bind_eq_some_iff.mp q3
    have e3' := e3
    rw [← hb] at e3'
    obtain ⟨us, e5, rfl⟩ := Option.map_eq_some_iff.mp e3'
    refine g2 xi us e5 F2 H' x σ2 _ r2.g.in_ (rx.mono r2.g.f) fun ws hw => ?_
    refine a2 _ g e4 H0 F1 F2 ad2 _ H' _ (r2.app hw) ?_
    refine loop_end (D := D) q4 ?_ fun σp4 e6 F ad σ H r => ⟨hlt, σp4, F, ad, r, e6⟩
    -- the wish for the whole, from the loop's own base
    cases fl with
    | nx σf => exact fun F ad σ H r => k F ad σ H (r1.join r)
    | bk σf => exact fun F ad σ H r => k F ad σ H (r1.join r)
    | ct σf => exact fun F ad σ H r => k F ad σ H (r1.join r)
    | rt y o => exact fun F H v g res => k F H v ⟨r1.g.f.trans g.f, g.h, g.in_, fun p a b => g.new p a (r1.g.new p a b)⟩ res
  · have e : i = vs.length := by omega
    subst e
    refine .inl ⟨it2 (Nat.le_refl _), ?_⟩
    have hd : items.drop vs.length = [] := by rw [rs.length]; exact List.drop_length ..
    rw [hd] at q2
    simp only [forL] at q2
    cases q2
    exact k F2 ad2 σ2 H2 (r1.join r2)
end
end Pv

/-! Part N: all statements; defs -/
namespace Pv
open PySem L2 PySem.Spec PyProof.Rows

section
variable {c : Cc} {T : Tb}
theorem top_of {M : Nat} (b0 : Bool) (ok : TabOk c T) (sc : Scope) (e : PySem.Expr) : ∃ t : TE, (∀ X, SOk c sc X → PE X e t) ∧ ∀ σp x o σp', evTop b0 c.N (evE T c.N M sc) σp e = some (x, o, σp') → EvF c t σp x o σp' := by
  obtain ⟨t, a, b⟩ := (sound ok M).e sc (fun _ => true) e
  exact ⟨t, fun X x => a X x.cx, fun σp x o σp' q => top_ok b q⟩
theorem ownT_some {r : Option (PV × Bool × Fm)} {ys : List PV} {σ : Fm} (h : ownT r = some (ys, σ)) : r = some (.lst ys, true, σ) := by
  unfold ownT at h
  split at h
  · cases h; rfl
  · cases h
theorem SS.weak {sc : Scope} {st : Stmt} {f g : Fm → Option Fl} (h : SS c sc st f) (q : ∀ σ fl, g σ = some fl → f σ = some fl) : SS c sc st g :=
  let ⟨t, a, b⟩ := h; ⟨t, a, fun σp fl e => b σp fl (q σp fl e)⟩
theorem swap_true {sc : Scope} {X : Cx} {x : Str} {px : Pos} {elt : PySem.Expr} {gens : List Comprehension} {scope : Scope} {p spos : Pos} (ok : SOk c sc X) (h : swapB sc x px (.ListComp elt gens scope p) = true) :
    X.env.scope.names.lookup x = some .local ∧ swapsWith (.ListComp elt gens scope p) (some (.Name x px)) spos.line X.env = pure true := by
  unfold swapB at h
  simp only [Bool.and_eq_true, decide_eq_true_eq, Bool.not_eq_true'] at h
  obtain ⟨⟨h1, h2⟩, h3⟩ := h
  have h1' : X.env.scope.names.lookup x = some .local := by rw [ok.cx.sc]; exact h1
  exact ⟨h1', sw_true (by rw [ok.cx.sc]; exact ok.kind) h1' h2 h3⟩
theorem sound_s {M W : Nat} (ok : TabOk c T) (sc : Scope) : ∀ n s, SS c sc s fun σ => exS T c.N M W sc n σ s
  | 0, s => SS.none.congr fun σ => by simp only [exS]
  | n + 1, s => by
    have IL : ∀ l, SSs c sc l fun σ => exL (exS T c.N M W sc n) l σ := fun l => sss_of (f := fun σ s => exS T c.N M W sc n σ s) fun s _ => sound_s ok sc n s
    cases s with
    | Pass pos => exact ⟨tNext, fun _ _ => ps_pass, fun σp fl h H0 F0 F ad σ H D r k => by simp only [exS] at h; cases h; exact k F ad σ H r⟩
    | Break pos => exact ⟨tBreak, fun _ _ => ps_break, fun σp fl h H0 F0 F ad σ H D r k => by simp only [exS] at h; cases h; exact k F ad σ H r⟩
    | Continue pos => exact ⟨tCont, fun _ _ => ps_continue, fun σp fl h H0 F0 F ad σ H D r k => by simp only [exS] at h; cases h; exact k F ad σ H r⟩
    | Return v pos =>
      cases v with
      | none => exact ⟨tRetN, fun _ _ => ps_retN, fun σp fl h H0 F0 F ad σ H D r k => by simp only [exS] at h; cases h; exact k F H .non r.g (.of .non)⟩
      | some e =>
        obtain ⟨t, a, b⟩ := top_of (M := M) (T.frz pos.line pos.col) ok sc e
        by_cases hn : ∃ x p, e = .Name x p
        · obtain ⟨x, p, rfl⟩ := hn
          by_cases h0 : (okNm x && visB sc x) = true
          · have h0' := h0
            rw [Bool.and_eq_true] at h0'
            obtain ⟨d1, d2⟩ := okNm_d h0'.1
            cases hi : idx c.N x with
            | none => exact SS.none.congr fun σ => by simp only [exS, h0, if_true, hi]
            | some i =>
              refine ⟨tRet (tVar i), fun X x => ps_ret (pe_var (by rw [x.cx.N]; exact idx_get hi) (by rw [x.cx.sc]; exact vis_of h0'.2) d1 d2), fun σp fl q H0 F0 F ad σ H D r k => ?_⟩
              simp only [exS, h0, if_true, hi] at q
              split at q
              · rename_i xs hx
                cases q
                obtain ⟨b1, b2, b3, vs, b4, b5⟩ := r.own i xs hx
                exact ⟨_, b1, k F H _ r.g (.mine b2 b3 b4 b5)⟩
              · rename_i v hv
                cases q
                obtain ⟨u, b1, b2⟩ := r.val i v hv
                exact ⟨u, b1, k F H u r.g (.of b2)⟩
              · cases q
          · exact (ss_ret (g := fun σ => evTop (T.frz pos.line pos.col) c.N (evE T c.N M sc) σ (.Name x p)) a b).congr fun σ => by simp only [exS, h0]; rfl
        · exact (ss_ret (g := fun σ => evTop (T.frz pos.line pos.col) c.N (evE T c.N M sc) σ e) a b).congr fun σ => by
            cases e <;> first | rfl | exact absurd ⟨_, _, rfl⟩ hn
    | Assign ts e pos =>
      obtain ⟨t, a, b⟩ := top_of (M := M) (T.frz pos.line pos.col) ok sc e
      cases ts with
      | nil => exact SS.none.congr fun σ => by rfl
      | cons tg ts =>
        cases ts with
        | cons _ _ =>
          exact SS.none.congr fun σ => by
            cases tg <;> first | rfl | (rename_i v _ _; cases v <;> rfl)
        | nil =>
          cases tg with
          | Name x px =>
            by_cases hc : (isComp e && !(swapB sc x px e)) = true
            · exact SS.none.congr fun σ => by simp only [exS, hc, if_true]
            · have key : ∀ (m b0 : Bool), SS c sc (.Assign [.Name x px] e pos) fun σ => (evTop b0 c.N (evE T c.N M sc) σ e).bind fun p => (storeN c.N sc x (slotOf p.1 (m && p.2.1)) p.2.2).map .nx := fun m b0 => by
                by_cases hic : isComp e = true
                · have hsw : swapB sc x px e = true := by
                    rw [hic] at hc
                    simpa using hc
                  cases e with
                  | ListComp elt gens scope p =>
                    obtain ⟨t', a', b'⟩ := sound_lcn ok M sc (fun _ => true) elt gens scope p
                    refine ss_set m (g := fun σ => evTop b0 c.N (evE T c.N M sc) σ (.ListComp elt gens scope p)) ok.nd (fun X x => (a' X x.cx).1) (fun σp y o σp' q => top_ok (e := .ListComp elt gens scope p) (f := evE T c.N M sc) b' q)
                      (.inr fun X okx i hi _ => ?_) (fun _ => hsw)
                    obtain ⟨l1, l2⟩ := swap_true (spos := pos) okx hsw
                    exact (a' X okx.cx).2 i x px pos hi l1 l2
                  | _ => first | (simp [swapB] at hsw)
                · obtain ⟨t, a, b⟩ := top_of (M := M) b0 ok sc e
                  exact ss_set m (g := fun σ => evTop b0 c.N (evE T c.N M sc) σ e) ok.nd a b (.inl (by simpa using hic)) (fun h => absurd h hic)
              by_cases hf : frE T e = true
              · refine ((key true true).weak (g := fun σ => (ownT (evTop true c.N (evE T c.N M sc) σ e)).bind fun q => (storeN c.N sc x (.own q.1) q.2).map .nx) fun σ fl q => ?_).congr fun σ => by simp only [exS, hc, hf, if_true]; rfl
                obtain ⟨⟨ys, σ1⟩, e1, q⟩ := Option.bind_eq_some_iff.mp q
                rw [ownT_some e1]
                exact q
              · refine (key false (T.frz pos.line pos.col)).congr fun σ => ?_
                simp only [exS, hc, hf, Bool.false_and]
                rfl
          | Tuple ts k pt =>
            by_cases he : ∃ vs k2 p2, e = .Tuple vs k2 p2
            · obtain ⟨vs, k2, p2, rfl⟩ := he
              cases hp : parB sc ts vs with
              | none => exact SS.none.congr fun σ => by simp only [exS, hp, Option.bind_none]
              | some xy =>
                obtain ⟨x, y⟩ := xy
                cases vs with
                | nil => exact SS.none.congr fun σ => by simp only [exS, hp, Option.bind_some]
                | cons e1 vs =>
                  cases vs with
                  | nil => exact SS.none.congr fun σ => by simp only [exS, hp, Option.bind_some]
                  | cons e2 vs =>
                    cases vs with
                    | cons _ _ => exact SS.none.congr fun σ => by simp only [exS, hp, Option.bind_some]
                    | nil =>
                      obtain ⟨t1, a1, b1⟩ := top_of (M := M) (T.frz pos.line pos.col) ok sc e1
                      obtain ⟨t2, a2, b2⟩ := top_of (M := M) (T.frz pos.line pos.col) ok sc e2
                      exact (ss_par (ga := fun σ => evTop (T.frz pos.line pos.col) c.N (evE T c.N M sc) σ e1) (gb := fun σ => evTop (T.frz pos.line pos.col) c.N (evE T c.N M sc) σ e2) ok.nd hp a1 a2 b1 b2).congr fun σ => by simp only [exS, hp, Option.bind_some]
            · by_cases hc : (isTup e || isComp e) = true
              · exact SS.none.congr fun σ => by
                  cases e <;> first | (simp only [exS, hc, if_true]; done) | exact absurd ⟨_, _, _, rfl⟩ he
              · have hc' : isTup e = false ∧ isComp e = false := by simpa using hc
                exact (ss_tup (g := fun σ => evTop (T.frz pos.line pos.col) c.N (evE T c.N M sc) σ e) ok.nd a b hc'.2 hc'.1).congr fun σ => by
                  cases e <;> first | rfl | exact absurd ⟨_, _, _, rfl⟩ he | (simp [isTup, isComp] at hc')
          | Subscript o ie ps =>
            cases o with
            | Name x px =>
              by_cases hc : (isComp e || isSl ie || !(okNm x && visB sc x)) = true
              · exact SS.none.congr fun σ => by simp only [exS, hc, if_true]
              · cases hi : idx c.N x with
                | none =>
                  exact SS.none.congr fun σ => by
                    simp only [exS, hc, hi, Option.bind_none]
                    cases evTop (T.frz pos.line pos.col) c.N (evE T c.N M sc) σ e <;> rfl
                | some i =>
                  have hc' : (isComp e = false ∧ isSl ie = false) ∧ okNm x = true ∧ visB sc x = true := by simpa using hc
                  obtain ⟨t2, a2, b2⟩ := top_of (M := M) (T.frz pos.line pos.col) ok sc ie
                  exact (ss_item (g := fun σ => evTop (T.frz pos.line pos.col) c.N (evE T c.N M sc) σ e) (gi := fun σ => evTop (T.frz pos.line pos.col) c.N (evE T c.N M sc) σ ie) hi hc'.2.1 hc'.2.2 hc'.1.1 hc'.1.2 a b a2 b2).congr fun σ => by
                    simp only [exS, hc, hi, Option.bind_some]
                    rfl
            | _ => exact SS.none.congr fun σ => by rfl
          | _ => exact SS.none.congr fun σ => by rfl
    | Expr e pos =>
      cases e with
      | Call fn args kws cp =>
        cases fn with
        | Attribute o m ap =>
          cases o with
          | Name x px =>
            cases kws with
            | cons _ _ => exact SS.none.congr fun σ => by rfl
            | nil =>
              by_cases h0 : (okNm x && visB sc x && (ap.endLine == cp.line)) = true
              · have h0' := h0
                rw [Bool.and_eq_true, Bool.and_eq_true] at h0'
                cases hi : idx c.N x with
                | none => exact SS.none.congr fun σ => by simp only [exS, h0, hi, Option.bind_none]; rfl
                | some i =>
                  by_cases hm : m = "append"
                  · subst hm
                    cases args with
                    | nil => exact SS.none.congr fun σ => by simp only [exS, h0, hi, Option.bind_some, if_true]; (repeat (any_goals split)) <;> rfl
                    | cons a args =>
                      cases args with
                      | cons _ _ => exact SS.none.congr fun σ => by simp only [exS, h0, hi, Option.bind_some, if_true]; (repeat (any_goals split)) <;> rfl
                      | nil =>
                        obtain ⟨t, a1, b1⟩ := top_of (M := M) (T.frz pos.line pos.col) ok sc a
                        by_cases hs : starB [a] = true
                        · exact SS.none.congr fun σ => by simp only [exS, h0, hi, Option.bind_some, if_true, hs]; (repeat (any_goals split)) <;> rfl
                        · have hs' : starB [a] = false := by simpa using hs
                          exact (ss_append (g := fun σ => evTop (T.frz pos.line pos.col) c.N (evE T c.N M sc) σ a) hi h0'.1.1 h0'.1.2 hs' h0'.2 a1 b1).congr fun σ => by
                            simp only [exS, h0, hi, Option.bind_some, if_true, hs']
                            rfl
                  · by_cases hm2 : m = "pop"
                    · subst hm2
                      cases args with
                      | cons _ _ => exact SS.none.congr fun σ => by simp only [exS, h0, hi, Option.bind_some, if_true, hm, if_false]; (repeat (any_goals split)) <;> rfl
                      | nil =>
                        exact (ss_pop hi h0'.1.1 h0'.1.2 h0'.2).congr fun σ => by
                          simp only [exS, h0, hi, Option.bind_some, if_true, hm, if_false]
                          cases e : σ[i]? with
                          | none => rfl
                          | some s => cases s <;> rfl
                    · exact SS.none.congr fun σ => by simp only [exS, h0, hi, Option.bind_some, hm, hm2, if_false]; (repeat (any_goals split)) <;> rfl
              · exact SS.none.congr fun σ => by simp only [exS, h0]; rfl
          | _ => exact SS.none.congr fun σ => by rfl
        | _ => exact SS.none.congr fun σ => by rfl
      | _ => exact SS.none.congr fun σ => by rfl
    | If e a b pos =>
      obtain ⟨t, a1, b1⟩ := (sound ok M).t sc (fun _ => true) e
      exact (ss_if (cl := T.fgt pos.line pos.col) (f := evT T c.N M sc) (fun X x => a1 X x.cx) b1 (IL a) (IL b)).congr fun σ => by simp only [exS]
    | While e a orelse pos =>
      cases orelse with
      | cons _ _ => exact SS.none.congr fun σ => by rfl
      | nil =>
        obtain ⟨t, a1, b1⟩ := (sound ok M).t sc (fun _ => true) e
        exact (ss_while (cl := T.fgt pos.line pos.col) (f := evT T c.N M sc) (W := W) (fun X x => a1 X x.cx) b1 (IL a)).congr fun σ => by simp only [exS]
    | For tg it a orelse pos =>
      cases orelse with
      | cons _ _ => exact SS.none.congr fun σ => by rfl
      | nil =>
        by_cases hs : ∃ a b p, it = .Set a b p
        · obtain ⟨a', b', p', rfl⟩ := hs
          exact SS.none.congr fun σ => by
            have : ∀ σ, evI T c.N M sc σ (.Set a' b' p') = none := fun σ => by cases M <;> rfl
            simp only [exS, evItr, this, Option.bind_none, ite_self]
        · obtain ⟨wi, a1, b1⟩ := (sound ok M).i sc (fun _ => true) it tg
          exact (ss_for (cl := T.fgt pos.line pos.col) (f := evI T c.N M sc) ok.nd (fold_of fun a b p q => hs ⟨a, b, p, q⟩) (fun X x => a1 X x.cx) b1 (IL a)).congr fun σ => by simp only [exS]
    | _ => exact SS.none.congr fun σ => by rfl
end
end Pv

/-! Part O: defs and programs -/
namespace Pv
open PySem L2 PySem.Spec PyProof.Rows

structure FD where
  N : List Str
  ps : List Str
  sc : Scope
  body : List Stmt
  dfl : List (Nat × List PV)
  kws : List (Nat × List Str) := []
  own : Bool := false
structure Pg where
  defsL : List (Str × FD)
  conL : List (Str × PV)
  fgtL : List ((Nat × Nat) × List (Nat × Bool))
  frzL : List (Nat × Nat)
  M : Nat
  D : Nat
  W : Nat
def Pg.defs (p : Pg) (g : Str) : Option FD := p.defsL.lookup g
def Pg.dfl (p : Pg) (g : Str) (n : Nat) : Option (List PV) := (p.defs g).bind fun fd => fd.dfl.lookup n
def Pg.kwd (p : Pg) (g : Str) (n : Nat) (ks : List Str) : Bool := match p.defs g with
  | some fd => fd.kws.any fun q => q.1 == n && q.2 == ks
  | none => false
def Pg.con (p : Pg) (x : Str) : Option PV := p.conL.lookup x
def Pg.own (p : Pg) (g : Str) : Bool := match p.defs g with
  | some fd => fd.own
  | none => false
def Pg.fgt (p : Pg) (l c : Nat) : List (Nat × Bool) := match p.fgtL.find? fun q => q.1.1 == l && q.1.2 == c with
  | some q => q.2
  | none => []
def Pg.frz (p : Pg) (l c : Nat) : Bool := p.frzL.any fun q => q.1 == l && q.2 == c
def tbOf (p : Pg) (call : Str → List PV → Out) : Tb := ⟨call, p.own, p.dfl, p.kwd, p.con, p.fgt, p.frz⟩
def startF (N : List Str) (xs : List PV) : Fm := xs.map .val ++ List.replicate (N.length - xs.length) .emp
def endF : Option Fl → Out
  | some (.rt x o) => some (x, o)
  | some (.nx _) => some (.non, false)
  | _ => none
def runB (p : Pg) (T : Tb) (fd : FD) (xs : List PV) : Out := if xs.length = fd.ps.length then endF (exL (exS T fd.N p.M p.W fd.sc p.D) fd.body (startF fd.N xs)) else none
def run (p : Pg) : Nat → Str → List PV → Out
  | 0 => fun _ _ => none
  | d + 1 => fun g xs => match p.defs g with
    | none => none
    | some fd => runB p (tbOf p (run p d)) fd xs

/-- a def stands behind the top -/
structure DefOk (K : PySem.W.Frag) (mg : Str → Option Value) (g : Str) (fd : FD) (f : Addr) (fdd : FuncData) : Prop where
  mg : mg g = some (.ref f)
  kp : PySem.W.keepIn K (.ref f) = true
  ex : ∃ (oc : Value) (od : Option Addr) (name qual : Str) (params : Arguments) (dV kV doc pm : Value) (an : Option Addr) (cdv ct : Value) (osl : Array (Option Value)),
    fdd = PySem.W.fnOf name qual params fd.body fd.sc dV kV doc pm an cdv ct ∧ K.lookup f = some ⟨oc, od, .func fdd, osl⟩ ∧ PySem.W.codeIn K cdv qual = true
  scope : FnScope fd.N fd.ps fd.sc
  dfl : ∀ q ∈ fd.dfl, ∃ dvs us, Binds K fdd fd.ps us ∧ Vals dvs us ∧ (∀ F, Reps K F dvs q.2) ∧ q.1 + q.2.length = fd.ps.length
  kwd : ∀ q ∈ fd.kws, ∃ g1 g2, KBn K fdd fd.ps q.1 q.2 g1 g2 ∧ (∀ vs zs, g2 vs zs = vs ++ zs) ∧ q.1 + q.2.length = fd.ps.length
inductive AllOk (K : PySem.W.Frag) (mg : Str → Option Value) : List (Str × FD) → Prop
  | nil : AllOk K mg []
  | cons {g : Str} {fd : FD} {l : List (Str × FD)} {f : Addr} {fdd : FuncData} : DefOk K mg g fd f fdd → AllOk K mg l → AllOk K mg ((g, fd) :: l)
theorem AllOk.mem {K : PySem.W.Frag} {mg : Str → Option Value} : ∀ {l : List (Str × FD)}, AllOk K mg l → ∀ q ∈ l, ∃ f fdd, DefOk K mg q.1 q.2 f fdd
  | _, .nil, q, h => by cases h
  | _, .cons d r, q, h => by
    rcases List.mem_cons.mp h with rfl | h
    · exact ⟨_, _, d⟩
    · exact r.mem q h
structure PgOk (K : PySem.W.Frag) (mg : Str → Option Value) (p : Pg) : Prop where
  defs : AllOk K mg p.defsL
  con : ∀ q ∈ p.conL, ∃ u v, mg q.1 = some u ∧ RelV v u ∧ ∀ F, Rep K F v q.2
  blt : ∀ x ∈ bltNames, mg x = none
  cls : ∀ q ∈ tyNames, mg q.1 = none
theorem PgOk.def {K : PySem.W.Frag} {mg : Str → Option Value} {p : Pg} (ok : PgOk K mg p) {g : Str} {fd : FD} (h : p.defs g = some fd) : ∃ f fdd, DefOk K mg g fd f fdd := ok.defs.mem (g, fd) (PySem.mem_of_lookup h)

theorem memN {α : Type} {n : Nat} {x : α} : ∀ {l : List (Nat × α)}, l.lookup n = some x → (n, x) ∈ l
  | [], h => by cases h
  | (k, v) :: l, h => by
    rw [List.lookup_cons] at h
    by_cases e : n = k
    · subst e
      simp at h
      subst h
      exact List.mem_cons_self
    · have : (n == k) = false := by simpa using e
      rw [this] at h
      exact List.mem_cons_of_mem _ (memN h)
section
variable {P : Program} {w : World} {K : PySem.W.Frag} {mg : Str → Option Value} {p : Pg}
theorem start_vrel {F : Hp} : ∀ {vs : List V} {xs : List PV}, Reps K F vs xs → ∀ (i : Nat) x, (xs.map Slot.val)[i]? = some (.val x) → ∃ v, (vs.map some)[i]? = some (some v) ∧ Rep K F v x := by
  intro vs xs r i x e
  rw [List.getElem?_map] at e
  cases h : xs[i]? with
  | none => simp [h] at e
  | some y =>
    simp only [h, Option.map_some, Option.some.injEq, Slot.val.injEq] at e
    subst e
    obtain ⟨v, h1, h2⟩ := r.get h
    exact ⟨v, by rw [List.getElem?_map, h1]; rfl, h2⟩
theorem start_rel {F H : Hp} {N : List Str} {vs : List V} {xs : List PV} {ad : Nat → Addr} (s : Same F H) (r : Reps K F vs xs) : SRel K H F F ad (startF N xs) (L2.start N vs) H := by
  have hl := r.length
  have get : ∀ (i : Nat) sl, (startF N xs)[i]? = some sl → (∃ x, xs[i]? = some x ∧ sl = .val x) ∨ sl = .emp := fun i sl e => by
    unfold startF at e
    by_cases hi : i < xs.length
    · rw [List.getElem?_append_left (by simpa using hi), List.getElem?_map] at e
      cases h : xs[i]? with
      | none => simp [h] at e
      | some y => simp only [h, Option.map_some, Option.some.injEq] at e; exact .inl ⟨y, rfl, e.symm⟩
    · rw [List.getElem?_append_right (by simpa using hi), List.getElem?_replicate] at e
      split at e
      · cases e; exact .inr rfl
      · cases e
  refine ⟨Grow.refl s |> fun g => ⟨g.f, Same.refl _, s, g.new⟩, ?_, fun i x e => ?_, fun i ys e => ?_, fun i j ys zs e => ?_⟩
  · unfold startF L2.start
    simp only [List.length_append, List.length_map, List.length_replicate, hl]
  · rcases get i _ e with ⟨y, h, q⟩ | q
    · cases q
      obtain ⟨v, h1, h2⟩ := r.get h
      refine ⟨v, ?_, h2⟩
      unfold L2.start
      have hi : i < vs.length := (List.getElem?_eq_some_iff.mp h1).1
      rw [List.getElem?_append_left (by simpa using hi), List.getElem?_map, h1]
      rfl
    · cases q
  · rcases get i _ e with ⟨y, h, q⟩ | q <;> cases q
  · rcases get i _ e with ⟨y, h, q⟩ | q <;> cases q
theorem Grow.self {F H : Hp} (s : Same F H) : Grow F H F H := Grow.refl s
/-- THE THEOREM: every def does what the evaluator says, d calls deep -/
theorem run_ok (ok : PgOk K mg p) : ∀ d base, K.In base → base.Ns mainGlobals mg → ∀ g fd f fdd, p.defs g = some fd → DefOk K mg g fd f fdd → FnOk P w K mg base CX0 d f fdd fd.ps (spOf K fd.ps.length (run p d g))
  | 0, base, _, _, g, fd, f, fdd, hd, D => by
    refine ⟨fun vs H Q E h => h.1, fun A outer s H args us vs Q E hr he hb hv h => ?_⟩
    obtain ⟨_, F, xs, x, own, _, _, h, _⟩ := h
    simp only [run] at h
    cases h
  | d + 1, base, hK, hG, g, fd, f, fdd, hd, D => by
    obtain ⟨oc, od, name, qual, params, dV, kV, doc, pm, an, cdv, ct, osl, rfl, lk, hcd⟩ := D.ex
    have T : TabOk ⟨P, w, K, mg, base, fd.N, d⟩ (tbOf p (run p d)) := by
      refine ⟨fun x q h => ok.con (x, q) (PySem.mem_of_lookup h), fun g2 n ds h => ?_, fun g2 n ks h => ?_, fun x h => ?_, fun x ty h => ok.cls (x, ty) (PySem.mem_of_lookup h), D.scope.nd⟩
      · obtain ⟨fd2, h2, h⟩ := Option.bind_eq_some_iff.mp h
        obtain ⟨f2, fdd2, D2⟩ := ok.def h2
        obtain ⟨dvs, us, b1, b2, b3, b4⟩ := D2.dfl (n, ds) (memN h)
        exact ⟨f2, fdd2, fd2.ps, dvs, us, D2.mg, D2.kp, run_ok ok d base hK hG g2 fd2 f2 fdd2 h2 D2, b1, b2, b3, b4⟩
      · have h : p.kwd g2 n ks = true := h
        unfold Pg.kwd at h
        cases h2 : p.defs g2 with
        | none => rw [h2] at h; cases h
        | some fd2 =>
        rw [h2] at h
        obtain ⟨⟨n', ks'⟩, hq, h⟩ := List.any_eq_true.mp h
        simp only [Bool.and_eq_true, beq_iff_eq] at h
        obtain ⟨rfl, rfl⟩ := h
        obtain ⟨f2, fdd2, D2⟩ := ok.def h2
        obtain ⟨g1, g2', b1, b2, b3⟩ := D2.kwd _ hq
        exact ⟨f2, fdd2, fd2.ps, g1, g2', D2.mg, D2.kp, run_ok ok d base hK hG g2 fd2 f2 fdd2 h2 D2, b1, b2, b3⟩
      · unfold isBlt at h
        obtain ⟨y, hy, e⟩ := List.any_eq_true.mp h
        have e' : y = x := by simpa using e
        subst e'
        exact ok.blt y hy
    refine fn_of lk hcd D.scope (fun vs H Q E h => h.1) fun A outer s H vs Q E hr hsp => ?_
    obtain ⟨hl, F, xs, x, own, sF, rs, hrun, k⟩ := hsp
    simp only [run, hd] at hrun
    unfold runB at hrun
    split at hrun
    · obtain ⟨t, a, b⟩ := sss_of (c := ⟨P, w, K, mg, base, fd.N, d⟩) (sc := fd.sc) (f := fun σ s => exS (tbOf p (run p d)) fd.N p.M p.W fd.sc p.D σ s) (l := fd.body) fun s _ => sound_s (M := p.M) (W := p.W) T fd.sc p.D s
      refine ⟨t, PSs.nox (a _ ⟨⟨rfl, rfl, rfl, rfl, rfl, rfl, rfl, hr, rfl, fun x _ => .inl rfl⟩, rfl, D.scope.kind⟩), ?_⟩
      cases e : exL (exS (tbOf p (run p d)) fd.N p.M p.W fd.sc p.D) fd.body (startF fd.N xs) with
      | none => rw [e] at hrun; simp [endF] at hrun
      | some fl =>
        rw [e] at hrun
        refine b _ fl e H F F (fun _ => 0) _ H _ (start_rel sF rs) ?_
        cases fl with
        | rt y o =>
          simp only [endF] at hrun
          cases hrun
          exact fun F' H' v g res => k v F' H' g res
        | nx σ' =>
          simp only [endF] at hrun
          cases hrun
          exact fun F' ad σ H' r => k .non F' H' r.g (.of .non)
        | bk σ' => simp [endF] at hrun
        | ct σ' => simp [endF] at hrun
    · cases hrun
/-- the law's own end -/
theorem law_end (ok : PgOk K mg p) {d : Nat} {base : Heap} (hK : K.In base) (hG : base.Ns mainGlobals mg) {g x : Str} {fd : FD} {f : Addr} {fdd : FuncData} (hd : p.defs g = some fd) (D : DefOk K mg g fd f fdd) (hps : fd.ps = [x]) :
    FnOk P w K mg base CX0 d f fdd [x] (spOf K 1 (run p d g)) := by
  have := run_ok (P := P) (w := w) ok d base hK hG g fd f fdd hd D
  rw [hps] at this
  exact this
theorem law_sp {d : Nat} {g : Str} {H : Hp} {a : Addr} {ns : List Int} (h : run p d g [.lst (ns.map .int)] = some (.bl true, false)) (hS : SqL K H a (ns.map V.int)) : spOf K 1 (run p d g) [.ref a] H (fun v _ => v = .bl true) fun _ _ _ => False := by
  refine ⟨rfl, H, [.lst (ns.map .int)], .bl true, false, Same.refl _, .cons (.lst hS (Reps.ints ns)) .nil, h, fun v F' H' g res => ?_⟩
  unfold Res at res
  rw [if_neg Bool.false_ne_true] at res
  exact res.ofBl
end
end Pv

/-! Part P: the evaluator of statements with what follows handed in; loops over states -/
namespace Pv
open PySem L2

abbrev Kt := Fm → Out
def finK (k kb kc : Kt) : Fl → Out
  | .nx σ => k σ
  | .rt x o => some (x, o)
  | .bk σ => kb σ
  | .ct σ => kc σ
def evTopK (b : Bool) (N : List Str) (f : Sl → PySem.Expr → Out) (σ : Fm) (e : PySem.Expr) (k : PV → Bool → Fm → Out) : Out :=
  if ownAt N σ e then (if b then (f (vis (frzOf N e σ)) e).bind fun p => k p.1 p.2 (frzOf N e σ)
      else (f (thaw σ) e).bind fun p => if p.1.flat then k p.1 false σ else none)
  else (f (vis σ) e).bind fun p => k p.1 p.2 σ
theorem evTopK_eq {b : Bool} {N : List Str} {f : Sl → PySem.Expr → Out} {σ : Fm} {e : PySem.Expr} {k : PV → Bool → Fm → Out} : evTopK b N f σ e k = (evTop b N f σ e).bind fun p => k p.1 p.2.1 p.2.2 := by
  unfold evTopK evTop
  split
  · split
    · rw [Option.bind_assoc]; rfl
    · rw [Option.bind_assoc]
      congr 1
      funext p
      split <;> rfl
  · rw [Option.bind_assoc]; rfl
def ownK (N : List Str) (f : Sl → PySem.Expr → Out) (σ : Fm) (e : PySem.Expr) (k : List PV → Fm → Out) : Out :=
  if ownAt N σ e then (ownO (f (vis (frzOf N e σ)) e)).bind fun ys => k ys (frzOf N e σ)
  else (ownO (f (vis σ) e)).bind fun ys => k ys σ
theorem ownT_map {r : Out} {σ : Fm} {k : List PV → Fm → Out} : (ownT (r.bind fun p => some (p.1, p.2, σ))).bind (fun q => k q.1 q.2) = (ownO r).bind fun ys => k ys σ := by
  cases r with
  | none => rfl
  | some p =>
    obtain ⟨x, o⟩ := p
    cases x <;> cases o <;> rfl
theorem ownK_eq {N : List Str} {f : Sl → PySem.Expr → Out} {σ : Fm} {e : PySem.Expr} {k : List PV → Fm → Out} : ownK N f σ e k = (ownT (evTop true N f σ e)).bind fun q => k q.1 q.2 := by
  unfold ownK evTop
  split
  · rw [if_pos rfl, ownT_map]
  · rw [ownT_map]
def evItrK (N : List Str) (f : Sl → PySem.Expr → Option (List PV)) (σ : Fm) (e : PySem.Expr) (k : List PV → Fm → Out) : Out :=
  if ownAt N σ e then (f (vis (frzOf N e σ)) e).bind fun xs => k xs (frzOf N e σ)
  else (f (vis σ) e).bind fun xs => k xs σ
theorem evItrK_eq {N : List Str} {f : Sl → PySem.Expr → Option (List PV)} {σ : Fm} {e : PySem.Expr} {k : List PV → Fm → Out} : evItrK N f σ e k = (evItr N f σ e).bind fun p => k p.1 p.2 := by
  unfold evItrK evItr
  split <;> (rw [Option.bind_assoc]; rfl)
def stK (N : List Str) (sc : Scope) (x : Str) (s : Slot) (σ : Fm) (k : Kt) : Out := (storeN N sc x s σ).bind k
def forK (cl : Fm → Fm) (bd : PV → Fm → Kt → Out) (body : Fm → Kt → Kt → Kt → Out) (k : Kt) : List PV → Fm → Out
  | [], σ => k σ
  | x :: r, σ => bd x σ fun σ1 => body σ1 (fun σ => forK cl bd body k r (cl σ)) (fun σ => k (cl σ)) (fun σ => forK cl bd body k r (cl σ))
def whK (cl : Fm → Fm) (test : Fm → Option Bool) (body : Fm → Kt → Kt → Kt → Out) (k : Kt) : Nat → Fm → Out
  | 0, _ => none
  | w + 1, σ => (test σ).bind fun b => if b then body σ (fun σ => whK cl test body k w (cl σ)) (fun σ => k (cl σ)) (fun σ => whK cl test body k w (cl σ)) else k σ
def setIx (xs : List PV) (q v : PV) : Option (List PV) := match q with
  | .int k => (ixN xs.length k).map fun j => xs.set j v
  | _ => none
def pushO (xs : List PV) (v : PV) : Option (List PV) := if xs.length < big then some (xs ++ [v]) else none
def popO (ys : List PV) : Option (List PV) := if ys.isEmpty then none else some ys.dropLast
def exLK (f : Fm → Stmt → Kt → Kt → Kt → Out) : List Stmt → Fm → Kt → Kt → Kt → Out
  | [], σ, k, _, _ => k σ
  | s :: r, σ, k, kb, kc => f σ s (fun σ' => exLK f r σ' k kb kc) kb kc
def exK (T : Tb) (N : List Str) (M W : Nat) (sc : Scope) : Nat → Fm → Stmt → Kt → Kt → Kt → Out
  | 0, _, _, _, _, _ => none
  | n + 1, σ, s, k, kb, kc => match s with
    | .Pass _ => k σ
    | .Break _ => kb σ
    | .Continue _ => kc σ
    | .Return none _ => some (.non, false)
    | .Return (some (.Name x p)) pos => if okNm x && visB sc x then (match idx N x with
        | some i => (match σ[i]? with
          | some (.own xs) => some (.lst xs, true)
          | some (.val v) => some (v, false)
          | _ => none)
        | none => none) else evTopK (T.frz pos.line pos.col) N (evE T N M sc) σ (.Name x p) fun x o _ => some (x, o)
    | .Return (some e) pos => evTopK (T.frz pos.line pos.col) N (evE T N M sc) σ e fun x o _ => some (x, o)
    | .Assign [.Name x px] e pos => if isComp e && !(swapB sc x px e) then none else
        if frE T e then ownK N (evE T N M sc) σ e fun ys σ => stK N sc x (.own ys) σ k
        else evTopK (T.frz pos.line pos.col) N (evE T N M sc) σ e fun v _ σ => stK N sc x (.val v) σ k
    | .Assign [.Tuple ts _ _] (.Tuple vs _ _) pos => (parB sc ts vs).bind fun xy =>
        (match vs with
        | [a, b] => evTopK (T.frz pos.line pos.col) N (evE T N M sc) σ a fun v _ σ => evTopK (T.frz pos.line pos.col) N (evE T N M sc) σ b fun w _ σ =>
            stK N sc xy.1 (.val v) σ fun σ => stK N sc xy.2 (.val w) σ k
        | _ => none)
    | .Assign [.Tuple ts kk pt] e pos => if isTup e || isComp e then none else
        evTopK (T.frz pos.line pos.col) N (evE T N M sc) σ e fun v _ σ => updTK N sc (fun _ => true) (.Tuple ts kk pt) v fun us => k (appF us σ)
    | .Assign [.Subscript (.Name x _) ie _] e pos => if isComp e || isSl ie || !(okNm x && visB sc x) then none else evTopK (T.frz pos.line pos.col) N (evE T N M sc) σ e fun v _ σ1 => (idx N x).bind fun i =>
        (match σ1[i]? with
        | some (.own _) => evTopK (T.frz pos.line pos.col) N (evE T N M sc) σ1 ie fun q _ σ2 => (match σ2[i]? with
          | some (.own xs) => (setIx xs q v).bind fun ys => k (σ2.set i (.own ys))
          | _ => none)
        | _ => none)
    | .Expr (.Call (.Attribute (.Name x _) m ap) args [] cp) pos => if !(okNm x && visB sc x && (ap.endLine == cp.line)) then none else (idx N x).bind fun i =>
        (match σ[i]? with
        | some (.own ys) => if m = "append" then (match args with
            | [a] => if starB [a] then none else evTopK (T.frz pos.line pos.col) N (evE T N M sc) σ a fun v _ σ1 => (match σ1[i]? with
              | some (.own xs) => (pushO xs v).bind fun ys => k (σ1.set i (.own ys))
              | _ => none)
            | _ => none)
          else if m = "pop" then (match args with
            | [] => (popO ys).bind fun ys => k (σ.set i (.own ys))
            | _ => none)
          else none
        | _ => none)
    | .If c a b pos => (evTst (evT T N M sc) σ c).bind fun t => if t then exLK (exK T N M W sc n) a σ (fun σ => k (clr (T.fgt pos.line pos.col) σ)) kb kc else exLK (exK T N M W sc n) b σ (fun σ => k (clr (T.fgt pos.line pos.col) σ)) kb kc
    | .While c a [] pos => whK (clr (T.fgt pos.line pos.col)) (fun σ => evTst (evT T N M sc) σ c) (fun σ => exLK (exK T N M W sc n) a σ) k W (clr (T.fgt pos.line pos.col) σ)
    | .For tg it a [] pos => evItrK N (evI T N M sc) σ it fun xs σ1 => forK (clr (T.fgt pos.line pos.col)) (fun x σ k => updTK N sc (fun _ => true) tg x fun us => k (appF us σ)) (fun σ => exLK (exK T N M W sc n) a σ) k xs (clr (T.fgt pos.line pos.col) σ1)
    | _ => none

/-! ### the same -/
theorem exLK_eq {f : Fm → Stmt → Kt → Kt → Kt → Out} {g : Fm → Stmt → Option Fl} : ∀ {l : List Stmt}, (∀ s ∈ l, ∀ σ k kb kc, f σ s k kb kc = (g σ s).bind (finK k kb kc)) → ∀ σ k kb kc, exLK f l σ k kb kc = (exL g l σ).bind (finK k kb kc)
  | [], _, σ, k, kb, kc => rfl
  | [s], h, σ, k, kb, kc => h s (List.mem_cons_self ..) σ _ _ _
  | s :: s' :: l, h, σ, k, kb, kc => by
    unfold exLK exL
    rw [h s (List.mem_cons_self ..), Option.bind_assoc]
    congr 1
    funext fl
    cases fl with
    | nx σ' => exact exLK_eq (l := s' :: l) (fun x hx => h x (List.mem_cons_of_mem _ hx)) σ' k kb kc
    | _ => rfl
theorem forK_eq {cl : Fm → Fm} {bd : PV → Fm → Kt → Out} {bd' : PV → Fm → Option Fm} {body : Fm → Kt → Kt → Kt → Out} {body' : Fm → Option Fl} (h : ∀ σ k kb kc, body σ k kb kc = (body' σ).bind (finK k kb kc)) (hb : ∀ x σ k, bd x σ k = (bd' x σ).bind k) (k kb kc : Kt) :
    ∀ xs σ, forK cl bd body k xs σ = (forL cl bd' body' xs σ).bind (finK k kb kc)
  | [], σ => rfl
  | x :: r, σ => by
    unfold forK forL
    rw [hb, Option.bind_assoc]
    congr 1
    funext σ1
    rw [h, Option.bind_assoc]
    congr 1
    funext fl
    cases fl with
    | nx σ' => exact forK_eq h hb k kb kc r (cl σ')
    | ct σ' => exact forK_eq h hb k kb kc r (cl σ')
    | bk σ' => rfl
    | rt x o => rfl
theorem whK_eq {cl : Fm → Fm} {test : Fm → Option Bool} {body : Fm → Kt → Kt → Kt → Out} {body' : Fm → Option Fl} (h : ∀ σ k kb kc, body σ k kb kc = (body' σ).bind (finK k kb kc)) (k kb kc : Kt) :
    ∀ w σ, whK cl test body k w σ = (whL cl test body' w σ).bind (finK k kb kc)
  | 0, σ => rfl
  | w + 1, σ => by
    unfold whK whL
    rw [Option.bind_assoc]
    congr 1
    funext b
    cases b with
    | false => rfl
    | true =>
      simp only [if_true]
      rw [h, Option.bind_assoc]
      congr 1
      funext fl
      cases fl with
      | nx σ' => exact whK_eq h k kb kc w (cl σ')
      | ct σ' => exact whK_eq h k kb kc w (cl σ')
      | bk σ' => rfl
      | rt x o => rfl
theorem exK_eq (T : Tb) (N : List Str) (M W : Nat) (sc : Scope) : ∀ n σ s k kb kc, exK T N M W sc n σ s k kb kc = (exS T N M W sc n σ s).bind (finK k kb kc)
  | 0, σ, s, k, kb, kc => by simp only [exK, exS, Option.bind_none]
  | n + 1, σ, s, k, kb, kc => by
    have IL : ∀ l σ k kb kc, exLK (exK T N M W sc n) l σ k kb kc = (exL (exS T N M W sc n) l σ).bind (finK k kb kc) := fun l σ k kb kc => exLK_eq (fun s _ σ k kb kc => exK_eq T N M W sc n σ s k kb kc) σ k kb kc
    cases s with
    | Pass pos => simp only [exK, exS, Option.bind_some, finK]
    | Break pos => simp only [exK, exS, Option.bind_some, finK]
    | Continue pos => simp only [exK, exS, Option.bind_some, finK]
    | Return v pos =>
      cases v with
      | none => simp only [exK, exS, Option.bind_some, finK]
      | some e =>
        by_cases hn : ∃ x p, e = .Name x p
        · obtain ⟨x, p, rfl⟩ := hn
          simp only [exK, exS]
          by_cases h0 : (okNm x && visB sc x) = true
          · simp only [h0, if_true]
            cases idx N x with
            | none => rfl
            | some i =>
              simp only
              cases σ[i]? with
              | none => rfl
              | some sl => cases sl <;> rfl
          · simp only [h0]
            rw [evTopK_eq]
            show _ = Option.bind (Option.bind _ _) _
            rw [Option.bind_assoc]; rfl
        · have e1 : exK T N M W sc (n + 1) σ (.Return (some e) pos) k kb kc = evTopK (T.frz pos.line pos.col) N (evE T N M sc) σ e fun x o _ => some (x, o) := by
            cases e <;> first | rfl | exact absurd ⟨_, _, rfl⟩ hn
          have e2 : exS T N M W sc (n + 1) σ (.Return (some e) pos) = (evTop (T.frz pos.line pos.col) N (evE T N M sc) σ e).bind fun p => some (.rt p.1 p.2.1) := by
            cases e <;> first | rfl | exact absurd ⟨_, _, rfl⟩ hn
          rw [e1, e2, evTopK_eq, Option.bind_assoc]; rfl
    | Assign ts e pos =>
      cases ts with
      | nil => rfl
      | cons tg ts =>
        cases ts with
        | cons _ _ => cases tg <;> first | rfl | (rename_i v _ _; cases v <;> rfl)
        | nil =>
          cases tg with
          | Name x px =>
            simp only [exK, exS]
            split
            · rfl
            · split
              · rw [ownK_eq, Option.bind_assoc]
                congr 1
                funext q
                unfold stK
                cases storeN N sc x (.own q.1) q.2 <;> rfl
              · rw [evTopK_eq, Option.bind_assoc]
                congr 1
                funext p
                unfold stK
                cases storeN N sc x (.val p.1) p.2.2 <;> rfl
          | Tuple ts kk pt =>
            by_cases he : ∃ vs k2 p2, e = .Tuple vs k2 p2
            · obtain ⟨vs, k2, p2, rfl⟩ := he
              simp only [exK, exS]
              rw [Option.bind_assoc]
              congr 1
              funext xy
              cases vs with
              | nil => rfl
              | cons a vs =>
                cases vs with
                | nil => rfl
                | cons b vs =>
                  cases vs with
                  | cons _ _ => rfl
                  | nil =>
                    simp only
                    rw [evTopK_eq, Option.bind_assoc]
                    congr 1
                    funext p
                    rw [evTopK_eq, Option.bind_assoc]
                    congr 1
                    funext q
                    unfold stK
                    rw [Option.bind_assoc]
                    congr 1
                    funext σ1
                    cases storeN N sc xy.2 (.val q.1) σ1 <;> rfl
            · have e1 : exK T N M W sc (n + 1) σ (.Assign [.Tuple ts kk pt] e pos) k kb kc = if isTup e || isComp e then none else
                  evTopK (T.frz pos.line pos.col) N (evE T N M sc) σ e fun v _ σ => updTK N sc (fun _ => true) (.Tuple ts kk pt) v fun us => k (appF us σ) := by
                cases e <;> first | rfl | exact absurd ⟨_, _, _, rfl⟩ he
              have e2 : exS T N M W sc (n + 1) σ (.Assign [.Tuple ts kk pt] e pos) = if isTup e || isComp e then none else
                  (evTop (T.frz pos.line pos.col) N (evE T N M sc) σ e).bind fun p => (updT N sc (fun _ => true) (.Tuple ts kk pt) p.1).map fun us => .nx (appF us p.2.2) := by
                cases e <;> first | rfl | exact absurd ⟨_, _, _, rfl⟩ he
              rw [e1, e2]
              split
              · rfl
              · rw [evTopK_eq, Option.bind_assoc]
                congr 1
                funext p
                rw [updTK_eq]
                cases updT N sc (fun _ => true) (.Tuple ts kk pt) p.1 <;> rfl
          | Subscript o ie ps =>
            cases o with
            | Name x px =>
              simp only [exK, exS]
              split
              · rfl
              · rw [evTopK_eq, Option.bind_assoc]
                congr 1
                funext p
                rw [Option.bind_assoc]
                congr 1
                funext i
                cases p.2.2[i]? with
                | none => rfl
                | some s =>
                  cases s with
                  | own ys =>
                    simp only
                    rw [evTopK_eq, Option.bind_assoc]
                    congr 1
                    funext q
                    cases q.2.2[i]? with
                    | none => rfl
                    | some s =>
                      cases s with
                      | own xs =>
                        unfold setIx
                        cases q.1 with
                        | int j => cases hx : ixN xs.length j <;> (simp only [hx]; rfl)
                        | _ => rfl
                      | _ => rfl
                  | _ => rfl
            | _ => rfl
          | _ => rfl
    | Expr e pos =>
      cases e with
      | Call fn args kws cp =>
        cases fn with
        | Attribute o m ap =>
          cases o with
          | Name x px =>
            cases kws with
            | cons _ _ => rfl
            | nil =>
              simp only [exK, exS]
              split
              · rfl
              · rw [Option.bind_assoc]
                congr 1
                funext i
                cases hs : σ[i]? with
                | none => rfl
                | some s =>
                  cases s with
                  | own ys =>
                    simp only
                    split
                    · cases args with
                      | nil => rfl
                      | cons a args =>
                        cases args with
                        | cons _ _ => rfl
                        | nil =>
                          simp only
                          split
                          · rfl
                          · rw [evTopK_eq, Option.bind_assoc]
                            congr 1
                            funext p
                            cases p.2.2[i]? with
                            | none => rfl
                            | some s =>
                              cases s with
                              | own xs =>
                                simp only
                                unfold pushO
                                split <;> rfl
                              | _ => rfl
                    · split
                      · cases args with
                        | cons _ _ => rfl
                        | nil =>
                          simp only
                          unfold popO
                          split <;> rfl
                      · rfl
                  | _ => rfl
          | _ => rfl
        | _ => rfl
      | _ => rfl
    | If e a b pos =>
      simp only [exK, exS]
      rw [Option.bind_assoc]
      congr 1
      funext t
      cases t with
      | true =>
        simp only [if_true]
        rw [IL a]
        cases exL (exS T N M W sc n) a σ with
        | none => rfl
        | some fl => cases fl <;> rfl
      | false =>
        simp only [Bool.false_eq_true, if_false]
        rw [IL b]
        cases exL (exS T N M W sc n) b σ with
        | none => rfl
        | some fl => cases fl <;> rfl
    | While e a orelse pos =>
      cases orelse with
      | cons _ _ => rfl
      | nil =>
        simp only [exK, exS]
        exact whK_eq (fun σ k kb kc => IL a σ k kb kc) k kb kc W _
    | For tg it a orelse pos =>
      cases orelse with
      | cons _ _ => rfl
      | nil =>
        simp only [exK, exS]
        rw [evItrK_eq, Option.bind_assoc]
        congr 1
        funext p
        exact forK_eq (fun σ k kb kc => IL a σ k kb kc) (fun x σ k => by rw [updTK_eq]; cases updT N sc (fun _ => true) tg x <;> rfl) k kb kc p.1 _
    | _ => rfl
/-- a whole def -/
def runK (p : Pg) (T : Tb) (fd : FD) (xs : List PV) : Out := if xs.length = fd.ps.length then exLK (exK T fd.N p.M p.W fd.sc p.D) fd.body (startF fd.N xs) (fun _ => some (.non, false)) (fun _ => none) (fun _ => none) else none
theorem runK_eq {p : Pg} {d : Nat} {g : Str} {fd : FD} (h : p.defs g = some fd) (xs : List PV) : run p (d + 1) g xs = runK p (tbOf p (run p d)) fd xs := by
  have e : run p (d + 1) g xs = runB p (tbOf p (run p d)) fd xs := by
    show (match p.defs g with | none => none | some fd => runB p (tbOf p (run p d)) fd xs) = _
    rw [h]
  rw [e]
  generalize tbOf p (run p d) = T
  unfold runB runK
  split
  · rw [exLK_eq fun s _ σ k kb kc => exK_eq _ _ _ _ _ _ σ s k kb kc]
    cases exL (exS T fd.N p.M p.W fd.sc p.D) fd.body (startF fd.N xs) with
    | none => rfl
    | some fl => cases fl <;> rfl
  · rfl

/-! ### loops over states -/
def forC {S : Type} (step : PV → S → (S → Out) → (S → Out) → Out) (k : S → Out) : List PV → S → Out
  | [], s => k s
  | x :: r, s => step x s (fun s => forC step k r s) k
def whC {S : Type} (test : S → Option Bool) (step : S → (S → Out) → (S → Out) → Out) (k : S → Out) : Nat → S → Out
  | 0, _ => none
  | w + 1, s => (test s).bind fun b => if b then step s (fun s => whC test step k w s) k else k s
theorem forK_emb {S : Type} (emb : S → Fm) {step : PV → S → (S → Out) → (S → Out) → Out} {cl : Fm → Fm} {bd : PV → Fm → Kt → Out} {body : Fm → Kt → Kt → Kt → Out} {k : Kt} {k' : S → Out}
    (h : ∀ x s (k1 k2 : Kt), bd x (emb s) (fun σ1 => body σ1 (fun σ => k1 (cl σ)) (fun σ => k2 (cl σ)) (fun σ => k1 (cl σ))) = step x s (fun s => k1 (emb s)) (fun s => k2 (emb s)))
    (hk : ∀ s, k (emb s) = k' s) : ∀ xs s, forK cl bd body k xs (emb s) = forC step k' xs s
  | [], s => hk s
  | x :: r, s => by
    unfold forK forC
    rw [h x s (fun σ => forK cl bd body k r σ) k]
    congr 1
    · funext s
      exact forK_emb emb h hk r s
    · funext s
      exact hk s
theorem whK_emb {S : Type} (emb : S → Fm) {tst : S → Option Bool} {step : S → (S → Out) → (S → Out) → Out} {cl : Fm → Fm} {test : Fm → Option Bool} {body : Fm → Kt → Kt → Kt → Out} {k : Kt} {k' : S → Out}
    (ht : ∀ s, test (emb s) = tst s)
    (h : ∀ s (k1 k2 : Kt), body (emb s) (fun σ => k1 (cl σ)) (fun σ => k2 (cl σ)) (fun σ => k1 (cl σ)) = step s (fun s => k1 (emb s)) (fun s => k2 (emb s)))
    (hk : ∀ s, k (emb s) = k' s) : ∀ w s, whK cl test body k w (emb s) = whC tst step k' w s
  | 0, s => rfl
  | w + 1, s => by
    unfold whK whC
    rw [ht]
    congr 1
    funext b
    cases b with
    | false => exact hk s
    | true =>
      simp only [if_true]
      rw [h s (fun σ => whK cl test body k w σ) k]
      congr 1
      · funext s
        exact whK_emb emb ht h hk w s
      · funext s
        exact hk s

/-! ### pieces of a block -/
theorem runK_pos {p : Pg} {T : Tb} {fd : FD} {xs : List PV} (h : xs.length = fd.ps.length) : runK p T fd xs = exLK (exK T fd.N p.M p.W fd.sc p.D) fd.body (startF fd.N xs) (fun _ => some (.non, false)) (fun _ => none) (fun _ => none) := if_pos h
/-- what is behind, once -/
def jn {S : Type} (R : S → Out) (A : (S → Out) → Out) : Out := A R
theorem exLK_app {f : Fm → Stmt → Kt → Kt → Kt → Out} : ∀ (l r : List Stmt) (σ : Fm) (k kb kc : Kt), exLK f (l ++ r) σ k kb kc = exLK f l σ (fun σ' => exLK f r σ' k kb kc) kb kc
  | [], r, σ, k, kb, kc => rfl
  | s :: l, r, σ, k, kb, kc => by
    show f σ s (fun σ' => exLK f (l ++ r) σ' k kb kc) kb kc = f σ s _ kb kc
    congr 1
    funext σ'
    exact exLK_app l r σ' k kb kc
theorem cut (n : Nat) {S : Type} {f : Fm → Stmt → Kt → Kt → Kt → Out} {l : List Stmt} {σ : Fm} {k kb kc : Kt} {A : (S → Out) → Out} {R : S → Out} (emb : S → Fm)
    (hs : ∀ k1 : Kt, exLK f (l.take n) σ k1 kb kc = A (fun s => k1 (emb s))) (hr : ∀ s, exLK f (l.drop n) (emb s) k kb kc = R s) : exLK f l σ k kb kc = jn R A := by
  have := exLK_app (f := f) (l.take n) (l.drop n) σ k kb kc
  rw [List.take_append_drop] at this
  rw [this, hs]
  unfold jn
  congr 1
  funext s
  exact hr s
theorem bc {α β : Type} {o : Option α} {f g : α → Option β} (h : ∀ x, f x = g x) : Option.bind o f = Option.bind o g := by
  congr 1
  funext x
  exact h x
theorem ic {α : Type} {t : Bool} {a b c d : α} (h1 : a = c) (h2 : b = d) : (if t = true then a else b) = if t = true then c else d := by rw [h1, h2]
theorem forP {T : Tb} {N : List Str} {M W : Nat} {sc : Scope} {n : Nat} {tg it : PySem.Expr} {body : List Stmt} {pos : Pos} {σ : Fm} {k kb kc : Kt} {S : Type} {I : Option (List PV)} {step : PV → S → (S → Out) → (S → Out) → Out} {k' : S → Out}
    (emb : S → Fm) (init : S) (σ1 : Fm) (embx : PV → S → Fm)
    (hI : ∀ K : List PV → Fm → Out, evItrK N (evI T N M sc) σ it K = I.bind fun xs => K xs σ1)
    (he : clr (T.fgt pos.line pos.col) σ1 = emb init)
    (hx : ∀ x s (K : Kt), updTK N sc (fun _ => true) tg x (fun us => K (appF us (emb s))) = K (embx x s))
    (hk : ∀ s, k (emb s) = k' s)
    (h : ∀ x s (k1 k2 : Kt), exLK (exK T N M W sc n) body (embx x s) (fun σ => k1 (clr (T.fgt pos.line pos.col) σ)) (fun σ => k2 (clr (T.fgt pos.line pos.col) σ)) (fun σ => k1 (clr (T.fgt pos.line pos.col) σ)) = step x s (fun s => k1 (emb s)) (fun s => k2 (emb s))) :
    exLK (exK T N M W sc (n + 1)) [.For tg it body [] pos] σ k kb kc = I.bind fun xs => forC step k' xs init := by
  have e : exLK (exK T N M W sc (n + 1)) [.For tg it body [] pos] σ k kb kc = evItrK N (evI T N M sc) σ it fun xs σ1 => forK (clr (T.fgt pos.line pos.col)) (fun x σ k => updTK N sc (fun _ => true) tg x fun us => k (appF us σ)) (fun σ => exLK (exK T N M W sc n) body σ) k xs (clr (T.fgt pos.line pos.col) σ1) := by
    simp only [exLK, exK]
  rw [e, hI]
  congr 1
  funext xs
  show forK _ _ _ _ xs (clr (T.fgt pos.line pos.col) σ1) = _
  rw [he]
  refine forK_emb emb (fun x s k1 k2 => ?_) hk xs init
  show updTK N sc (fun _ => true) tg x (fun us => exLK (exK T N M W sc n) body (appF us (emb s)) (fun σ => k1 (clr (T.fgt pos.line pos.col) σ)) (fun σ => k2 (clr (T.fgt pos.line pos.col) σ)) (fun σ => k1 (clr (T.fgt pos.line pos.col) σ))) = _
  rw [← h x s k1 k2]
  exact hx x s fun σ => exLK (exK T N M W sc n) body σ (fun σ => k1 (clr (T.fgt pos.line pos.col) σ)) (fun σ => k2 (clr (T.fgt pos.line pos.col) σ)) (fun σ => k1 (clr (T.fgt pos.line pos.col) σ))
theorem forPt (m : Nat) {T : Tb} {N : List Str} {M W : Nat} {sc : Scope} {n : Nat} {tg it : PySem.Expr} {body : List Stmt} {pos : Pos} {σ : Fm} {k kb kc : Kt} {S : Type} {I : Option (List PV)} {step : List PV → S → (S → Out) → (S → Out) → Out} {k' : S → Out}
    (emb : S → Fm) (init : S) (σ1 : Fm) (embx : List PV → S → Fm)
    (hI : ∀ K : List PV → Fm → Out, evItrK N (evI T N M sc) σ it K = I.bind fun xs => K xs σ1)
    (he : clr (T.fgt pos.line pos.col) σ1 = emb init)
    (hx : ∀ x s (K : Kt), updTK N sc (fun _ => true) tg x (fun us => K (appF us (emb s))) = (unT m x).bind fun vs => K (embx vs s))
    (hk : ∀ s, k (emb s) = k' s)
    (h : ∀ x s (k1 k2 : Kt), exLK (exK T N M W sc n) body (embx x s) (fun σ => k1 (clr (T.fgt pos.line pos.col) σ)) (fun σ => k2 (clr (T.fgt pos.line pos.col) σ)) (fun σ => k1 (clr (T.fgt pos.line pos.col) σ)) = step x s (fun s => k1 (emb s)) (fun s => k2 (emb s))) :
    exLK (exK T N M W sc (n + 1)) [.For tg it body [] pos] σ k kb kc = I.bind fun xs => forC (fun x s k1 k2 => (unT m x).bind fun vs => step vs s k1 k2) k' xs init := by
  have e : exLK (exK T N M W sc (n + 1)) [.For tg it body [] pos] σ k kb kc = evItrK N (evI T N M sc) σ it fun xs σ1 => forK (clr (T.fgt pos.line pos.col)) (fun x σ k => updTK N sc (fun _ => true) tg x fun us => k (appF us σ)) (fun σ => exLK (exK T N M W sc n) body σ) k xs (clr (T.fgt pos.line pos.col) σ1) := by
    simp only [exLK, exK]
  rw [e, hI]
  congr 1
  funext xs
  show forK _ _ _ _ xs (clr (T.fgt pos.line pos.col) σ1) = _
  rw [he]
  refine forK_emb emb (fun x s k1 k2 => ?_) hk xs init
  have := hx x s fun σ => exLK (exK T N M W sc n) body σ (fun σ => k1 (clr (T.fgt pos.line pos.col) σ)) (fun σ => k2 (clr (T.fgt pos.line pos.col) σ)) (fun σ => k1 (clr (T.fgt pos.line pos.col) σ))
  refine Eq.trans this ?_
  congr 1
  funext vs
  exact h vs s k1 k2
theorem whP {T : Tb} {N : List Str} {M W : Nat} {sc : Scope} {n : Nat} {c : PySem.Expr} {body : List Stmt} {pos : Pos} {σ : Fm} {k kb kc : Kt} {S : Type} {tst : S → Option Bool} {step : S → (S → Out) → (S → Out) → Out} {k' : S → Out}
    (emb : S → Fm) (init : S)
    (he : clr (T.fgt pos.line pos.col) σ = emb init)
    (ht : ∀ s, evTst (evT T N M sc) (emb s) c = tst s)
    (hk : ∀ s, k (emb s) = k' s)
    (h : ∀ s (k1 k2 : Kt), exLK (exK T N M W sc n) body (emb s) (fun σ => k1 (clr (T.fgt pos.line pos.col) σ)) (fun σ => k2 (clr (T.fgt pos.line pos.col) σ)) (fun σ => k1 (clr (T.fgt pos.line pos.col) σ)) = step s (fun s => k1 (emb s)) (fun s => k2 (emb s))) :
    exLK (exK T N M W sc (n + 1)) [.While c body [] pos] σ k kb kc = whC tst step k' W init := by
  show whK _ _ _ _ W (clr (T.fgt pos.line pos.col) σ) = _
  rw [he]
  exact whK_emb emb ht h hk W init
theorem ifP {T : Tb} {N : List Str} {M W : Nat} {sc : Scope} {n : Nat} {c : PySem.Expr} {a b : List Stmt} {pos : Pos} {σ : Fm} {k kb kc : Kt} {tt : Option Bool} {A B : Out}
    (ht : evTst (evT T N M sc) σ c = tt)
    (ha : exLK (exK T N M W sc n) a σ (fun σ => k (clr (T.fgt pos.line pos.col) σ)) kb kc = A)
    (hb : exLK (exK T N M W sc n) b σ (fun σ => k (clr (T.fgt pos.line pos.col) σ)) kb kc = B) :
    exLK (exK T N M W sc (n + 1)) [.If c a b pos] σ k kb kc = tt.bind fun t => if t then A else B := by
  rw [← ht, ← ha, ← hb]
  rfl
/-! ### short names for the mirrors -/
def op2 (op : Operator) (x y : PV) : Out := (binop op x y).bind fun z => sh z.1
def ix (x y : PV) : Out := (getIx x y).bind fun z => sh z.1
def sl (x : PV) (l h : Option Int) : Out := (getSl x l h).bind fun z => sh z.1
def cmpV (op : CmpOp) (x y : PV) : Out := (cmp op x y).bind fun c => sh (.bl c)
def insV (ty : String) (x : PV) : Out := (clsIs ty x).bind fun b => sh (.bl b)
def cl1 (r : Out) : Out := (fstO r).bind fun x => some (x, false)
def cl2 (r : Out) : Out := (ownO r).bind fun ys => some (.lst ys, true)
end Pv

/-! Part Q: what the short names tell; fractions; sizes -/
namespace Pv
open PySem L2

/-! ### steps -/
/-- told by computing, but no rule that simp takes for one that computes -/
theorem nr {α : Type} {a b : α} (h : a = b) : a = b := h
@[simp] theorem ob_some {α β : Type} {x : α} {f : α → Option β} : (some x).bind f = f x := nr rfl
@[simp] theorem om_some {α β : Type} {x : α} {f : α → β} : (some x).map f = some (f x) := nr rfl
@[simp] theorem sh_bind {β : Type} {x : PV} {f : PV × Bool → Option β} : (sh x).bind f = f (x, false) := nr rfl
@[simp] theorem sh_map {β : Type} {x : PV} {f : PV × Bool → β} : (sh x).map f = some (f (x, false)) := nr rfl
theorem sh_some {x : PV} : some (x, false) = sh x := nr rfl
@[simp] theorem cl1_sh {x : PV} : cl1 (sh x) = sh x := nr rfl
@[simp] theorem cl1_some {x : PV} {o : Bool} : cl1 (some (x, o)) = sh x := nr rfl
@[simp] theorem cl2_own {xs : List PV} : cl2 (some (.lst xs, true)) = some (.lst xs, true) := nr rfl
@[simp] theorem ownO_own {xs : List PV} : ownO (some (.lst xs, true)) = some xs := nr rfl
@[simp] theorem jn_def {S : Type} {R : S → Out} {A : (S → Out) → Out} : jn R A = A R := nr rfl
@[simp] theorem op2_add {i j : Int} : op2 .Add (.int i) (.int j) = sh (.int (i + j)) := nr rfl
@[simp] theorem op2_sub {i j : Int} : op2 .Sub (.int i) (.int j) = sh (.int (i - j)) := nr rfl
theorem op2_mul {i j : Int} (h : mulOk i j = true) : op2 .Mult (.int i) (.int j) = sh (.int (i * j)) := by
  show (if mulOk i j then sh (.int (i * j)) else none).bind (fun z => sh z.1) = _
  rw [if_pos h]
  rfl
theorem op2_div {i j : Int} (h : divOk j = true) : op2 .FloorDiv (.int i) (.int j) = sh (.int (i.fdiv j)) := by
  show (if divOk j then sh (.int (i.fdiv j)) else none).bind (fun z => sh z.1) = _
  rw [if_pos h]
  rfl
theorem op2_mod {i j : Int} (h : j ≠ 0) : op2 .Mod (.int i) (.int j) = sh (.int (i.fmod j)) := by
  show (if j = 0 then none else sh (.int (i.fmod j))).bind (fun z => sh z.1) = _
  rw [if_neg h]
  rfl
@[simp] theorem op2_mods {i j : Int} (h : 0 < j) : op2 .Mod (.int i) (.int j) = sh (.int (i % j)) := by
  rw [op2_mod (by omega), Int.fmod_eq_emod_of_nonneg _ (by omega)]
theorem op2_divs {i j : Int} (h : 0 < j) (h2 : j < 2 ^ 64) : op2 .FloorDiv (.int i) (.int j) = sh (.int (i / j)) := by
  rw [op2_div, Int.fdiv_eq_ediv_of_nonneg _ (by omega)]
  unfold divOk
  simp only [Bool.and_eq_true, decide_eq_true_eq]
  refine ⟨by omega, ?_⟩
  have : j.natAbs < 2 ^ 64 := by omega
  have := (Nat.log2_lt (n := j.natAbs) (k := 64) (by omega)).mpr this
  omega
@[simp] theorem cmp_lt {i j : Int} : cmp .Lt (.int i) (.int j) = some (decide (i < j)) := nr rfl
@[simp] theorem cmp_le {i j : Int} : cmp .LtE (.int i) (.int j) = some (decide (i ≤ j)) := nr rfl
@[simp] theorem cmp_gt {i j : Int} : cmp .Gt (.int i) (.int j) = some (decide (j < i)) := nr rfl
@[simp] theorem cmp_ge {i j : Int} : cmp .GtE (.int i) (.int j) = some (decide (j ≤ i)) := nr rfl
@[simp] theorem cmpV_def {op : CmpOp} {x y : PV} : cmpV op x y = (cmp op x y).bind fun c => sh (.bl c) := nr rfl
@[simp] theorem eqD_int {i j : Int} : eqD (.int i) (.int j) = some (decide (i = j)) := by
  unfold eqD
  rw [if_pos (by rfl)]
  simp only [PV.toD, PyData.eqv]
  rfl
@[simp] theorem cmp_eq {x y : PV} : cmp .Eq x y = eqD x y := by cases x <;> cases y <;> rfl
@[simp] theorem cmp_ne {x y : PV} : cmp .NotEq x y = (eqD x y).map (!·) := by cases x <;> cases y <;> rfl
@[simp] theorem truth_bl {b : Bool} : truth (.bl b) = some b := nr rfl
@[simp] theorem truth_int {i : Int} : truth (.int i) = some (i != 0) := nr rfl
@[simp] theorem truth_lst {xs : List PV} : truth (.lst xs) = some (!xs.isEmpty) := nr rfl
@[simp] theorem truth_tup {xs : List PV} : truth (.tup xs) = some (!xs.isEmpty) := nr rfl
@[simp] theorem truth_non : truth .non = some false := nr rfl
@[simp] theorem blOf_bl {b : Bool} : blOf (.bl b) = some b := nr rfl
@[simp] theorem neg1_int {i : Int} : neg1 (.int i) = sh (.int (-i)) := nr rfl
@[simp] theorem not1_bl {b : Bool} : not1 (.bl b) = sh (.bl (!b)) := nr rfl
theorem k_int_int : kitB "int" "int" = some true := by decide +kernel
theorem k_bool_int : kitB "bool" "int" = some true := by decide +kernel
theorem k_int_bool : kitB "int" "bool" = some false := by decide +kernel
theorem k_bool_bool : kitB "bool" "bool" = some true := by decide +kernel
theorem k_tup_tup : kitB "tuple" "tuple" = some true := by decide +kernel
theorem k_lst_lst : kitB "list" "list" = some true := by decide +kernel
theorem k_tup_lst : kitB "tuple" "list" = some false := by decide +kernel
theorem k_lst_tup : kitB "list" "tuple" = some false := by decide +kernel
theorem k_int_tup : kitB "int" "tuple" = some false := by decide +kernel
theorem k_int_lst : kitB "int" "list" = some false := by decide +kernel
theorem k_non_tup : kitB "NoneType" "tuple" = some false := by decide +kernel
theorem k_non_int : kitB "NoneType" "int" = some false := by decide +kernel
@[simp] theorem ins_ii {i : Int} : insV "int" (.int i) = sh (.bl true) := by simp only [insV, clsIs, k_int_int]; rfl
@[simp] theorem ins_bi {i : Bool} : insV "int" (.bl i) = sh (.bl true) := by simp only [insV, clsIs, k_bool_int]; rfl
@[simp] theorem ins_ib {i : Int} : insV "bool" (.int i) = sh (.bl false) := by simp only [insV, clsIs, k_int_bool]; rfl
@[simp] theorem ins_bb {i : Bool} : insV "bool" (.bl i) = sh (.bl true) := by simp only [insV, clsIs, k_bool_bool]; rfl
@[simp] theorem ins_tt {x : List PV} : insV "tuple" (.tup x) = sh (.bl true) := by simp only [insV, clsIs, k_tup_tup]; rfl
@[simp] theorem ins_ll {x : List PV} : insV "list" (.lst x) = sh (.bl true) := by simp only [insV, clsIs, k_lst_lst]; rfl
@[simp] theorem ins_tl {x : List PV} : insV "list" (.tup x) = sh (.bl false) := by simp only [insV, clsIs, k_tup_lst]; rfl
@[simp] theorem ins_lt {x : List PV} : insV "tuple" (.lst x) = sh (.bl false) := by simp only [insV, clsIs, k_lst_tup]; rfl
@[simp] theorem ins_nt : insV "tuple" .non = sh (.bl false) := by simp only [insV, clsIs, k_non_tup]; rfl
@[simp] theorem len_lst {xs : List PV} : bltV "len" [.lst xs] = sh (.int xs.length) := nr rfl
@[simp] theorem len_tup {xs : List PV} : bltV "len" [.tup xs] = sh (.int xs.length) := nr rfl
@[simp] theorem abs_int {i : Int} : bltV "abs" [.int i] = sh (.int i.natAbs) := by
  show sh (.int (if i < 0 then -i else i)) = _
  congr 2
  omega
@[simp] theorem int_int {i : Int} : bltV "int" [.int i] = sh (.int i) := nr rfl
@[simp] theorem list_lst {xs : List PV} : bltV "list" [.lst xs] = some (.lst xs, true) := nr rfl
@[simp] theorem list_tup {xs : List PV} : bltV "list" [.tup xs] = some (.lst xs, true) := nr rfl
@[simp] theorem tuple_lst {xs : List PV} : bltV "tuple" [.lst xs] = sh (.tup xs) := nr rfl
@[simp] theorem tuple_tup {xs : List PV} : bltV "tuple" [.tup xs] = sh (.tup xs) := nr rfl
theorem atI_nat {xs : List PV} {i : Nat} {x : PV} (h : xs[i]? = some x) : atI xs i = some x := by
  have hl : i < xs.length := (List.getElem?_eq_some_iff.mp h).1
  unfold atI ixN
  rw [if_pos (by omega), if_pos (by omega)]
  exact h
theorem ixL {xs : List PV} {i : Nat} {x : PV} (h : xs[i]? = some x) : ix (.lst xs) (.int i) = sh x := by
  show (((atI xs i).bind sh).bind fun z => sh z.1) = _
  rw [atI_nat h]
  rfl
theorem ixT {xs : List PV} {i : Nat} {x : PV} (h : xs[i]? = some x) : ix (.tup xs) (.int i) = sh x := by
  show (((atI xs i).bind sh).bind fun z => sh z.1) = _
  rw [atI_nat h]
  rfl
@[simp] theorem ix_t0 {a : PV} {l : List PV} : ix (.tup (a :: l)) (.int 0) = sh a := ixT (i := 0) rfl
@[simp] theorem ix_l0 {a : PV} {l : List PV} : ix (.lst (a :: l)) (.int 0) = sh a := ixL (i := 0) rfl
@[simp] theorem ix_t1 {a b : PV} {l : List PV} : ix (.tup (a :: b :: l)) (.int 1) = sh b := ixT (i := 1) rfl
@[simp] theorem ix_l1 {a b : PV} {l : List PV} : ix (.lst (a :: b :: l)) (.int 1) = sh b := ixL (i := 1) rfl
@[simp] theorem ix_t2 {a b c : PV} {l : List PV} : ix (.tup (a :: b :: c :: l)) (.int 2) = sh c := ixT (i := 2) rfl
@[simp] theorem ix_l2 {a b c : PV} {l : List PV} : ix (.lst (a :: b :: c :: l)) (.int 2) = sh c := ixL (i := 2) rfl
@[simp] theorem getD0 {a : PV} {l : List PV} : (a :: l).getD 0 .non = a := nr rfl
@[simp] theorem unT2 {a b : PV} : unT 2 (.tup [a, b]) = some [a, b] := nr rfl
@[simp] theorem unT3 {a b c : PV} : unT 3 (.tup [a, b, c]) = some [a, b, c] := nr rfl

/-! ### lists by a function -/
def rl (n : Nat) (g : Nat → PV) : List PV := (List.range n).map g
@[simp] theorem rl_len {n : Nat} {g : Nat → PV} : (rl n g).length = n := by simp [rl]
theorem rl_get {n i : Nat} {g : Nat → PV} (h : i < n) : (rl n g)[i]? = some (g i) := by simp [rl, h]
@[simp] theorem rl_zero {g : Nat → PV} : rl 0 g = [] := nr rfl
theorem rl_succ {n : Nat} {g : Nat → PV} : rl n g ++ [g n] = rl (n + 1) g := by simp [rl, List.range_succ]
theorem rl_congr {n : Nat} {f g : Nat → PV} (h : ∀ k < n, f k = g k) : rl n f = rl n g := by
  unfold rl
  exact List.map_congr_left fun k hk => h k (List.mem_range.mp hk)
theorem ix_rlL {n : Nat} {g : Nat → PV} {i : Nat} (h : i < n) : ix (.lst (rl n g)) (.int i) = sh (g i) := ixL (rl_get h)
theorem ix_rlT {n : Nat} {g : Nat → PV} {i : Nat} (h : i < n) : ix (.tup (rl n g)) (.int i) = sh (g i) := ixT (rl_get h)
theorem ix_rlI {n : Nat} {g : Nat → PV} {i : Int} (h : 0 ≤ i) (h2 : i < n) : ix (.lst (rl n g)) (.int i) = sh (g i.toNat) := by
  obtain ⟨k, rfl⟩ := Int.eq_ofNat_of_zero_le h
  exact ix_rlL (by omega)
theorem pushO_ok {xs : List PV} {v : PV} (h : xs.length < 1000000) : pushO xs v = some (xs ++ [v]) := by
  exact if_pos h
theorem push_rl {n : Nat} {g : Nat → PV} {v : PV} (h : n < 1000000) (hv : v = g n) : pushO (rl n g) v = some (rl (n + 1) g) := by
  rw [pushO_ok (by simpa using h), hv, rl_succ]
theorem seqOf_lst {xs : List PV} (h : xs.length ≤ 1000000) : seqOf (.lst xs) = some xs := by
  exact if_pos h
theorem seqOf_tup {xs : List PV} (h : xs.length ≤ 1000000) : seqOf (.tup xs) = some xs := by
  exact if_pos h
theorem rng1_ok {n : Nat} (h : n ≤ 1000000) : rng1 (.int n) = some (intsFrom 0 n) := by
  show (if small62 n && decide ((n : Int).toNat ≤ big) then some (intsFrom 0 (n : Int).toNat) else none) = _
  rw [if_pos]
  · rfl
  · unfold small62
    simp only [Bool.and_eq_true, decide_eq_true_eq]
    refine ⟨⟨?_, ?_⟩, ?_⟩
    · omega
    · omega
    · show n ≤ 1000000
      exact h
theorem intsFrom_eq : ∀ (n : Nat) (lo : Int), intsFrom lo n = (List.range n).map fun k : Nat => PV.int (lo + k)
  | 0, lo => rfl
  | n + 1, lo => by
    rw [List.range_succ_eq_map]
    simp only [intsFrom, List.map_cons, List.map_map, intsFrom_eq n (lo + 1)]
    congr 1
    · simp
    · refine List.map_congr_left fun k _ => ?_
      simp only [Function.comp]
      congr 1
      omega
theorem ints0 {n : Nat} : intsFrom 0 n = rl n fun k : Nat => .int k := by
  rw [intsFrom_eq]
  unfold rl
  simp
theorem forC_list {S : Type} {step : PV → S → (S → Out) → (S → Out) → Out} {K : S → Out} {α : Type} (em : α → PV) (nx : α → S → S) : ∀ (xs : List α) (s : S),
    (∀ x ∈ xs, ∀ s kn kb, step (em x) s kn kb = kn (nx x s)) → forC step K (xs.map em) s = K (xs.foldl (fun s x => nx x s) s)
  | [], s, h => rfl
  | x :: xs, s, h => by
    show step (em x) s (fun s => forC step K (xs.map em) s) K = _
    rw [h x (List.mem_cons_self ..)]
    exact forC_list em nx xs (nx x s) fun y hy => h y (List.mem_cons_of_mem _ hy)
/-- a loop over range(n) whose state behind k turns is known -/
theorem forC_from {S : Type} {step : PV → S → (S → Out) → (S → Out) → Out} {K : S → Out} (inv : Nat → S) : ∀ (n lo : Nat),
    (∀ k, lo ≤ k → k < lo + n → ∀ kn kb, step (.int k) (inv k) kn kb = kn (inv (k + 1))) → forC step K (intsFrom lo n) (inv lo) = K (inv (lo + n))
  | 0, lo, h => rfl
  | n + 1, lo, h => by
    show step (.int lo) (inv lo) (fun s => forC step K (intsFrom ((lo : Int) + 1) n) s) K = _
    rw [h lo (Nat.le_refl _) (by omega)]
    have := forC_from (step := step) (K := K) inv n (lo + 1) fun k a b => h k (by omega) (by omega)
    rw [show ((lo : Int) + 1) = ((lo + 1 : Nat) : Int) by omega, this]
    congr 2
    omega
theorem forC_rng {S : Type} {step : PV → S → (S → Out) → (S → Out) → Out} {K : S → Out} {s0 : S} (n : Nat) (inv : Nat → S) (h0 : s0 = inv 0)
    (h : ∀ k, k < n → ∀ kn kb, step (.int k) (inv k) kn kb = kn (inv (k + 1))) : forC step K (intsFrom 0 n) s0 = K (inv n) := by
  have := forC_from (step := step) (K := K) inv n 0 fun k _ b => h k (by omega)
  rw [h0]
  simpa using this
/-- .. that may be left with an answer of its own: all turns pass, or the answer is there -/
theorem compM_rl {step : PV → Option (Option PV)} {em : Nat → PV} {g : Nat → PV} (n : Nat) (h : ∀ k < n, step (em k) = some (some (g k))) : compM step (rl n em) = some (rl n g) := by
  unfold rl
  have : ∀ (l : List Nat), (∀ k ∈ l, step (em k) = some (some (g k))) → compM step (l.map em) = some (l.map g) := by
    intro l
    induction l with
    | nil => intro _; rfl
    | cons x l ih =>
      intro hl
      simp only [List.map_cons, compM]
      rw [hl x (List.mem_cons_self ..), ih fun k hk => hl k (List.mem_cons_of_mem _ hk)]
      rfl
  exact this _ fun k hk => h k (List.mem_range.mp hk)
theorem compM_map {α : Type} {step : PV → Option (Option PV)} {em : α → PV} {g : α → PV} : ∀ (l : List α), (∀ x ∈ l, step (em x) = some (some (g x))) → compM step (l.map em) = some (l.map g)
  | [], _ => rfl
  | x :: l, h => by
    simp only [List.map_cons, compM]
    rw [h x (List.mem_cons_self ..), compM_map l fun k hk => h k (List.mem_cons_of_mem _ hk)]
    rfl

/-! ### equality of what is alike -/
mutual
def PV.pl : PV → Bool
  | .non => true | .bl _ => false | .int _ => true | .str _ => false
  | .tup xs => PV.pls xs
  | .lst xs => PV.pls xs
def PV.pls : List PV → Bool
  | [] => true
  | x :: xs => PV.pl x && PV.pls xs
end
mutual
def PV.dp : PV → Nat
  | .tup xs => PV.dps xs + 1
  | .lst xs => PV.dps xs + 1
  | _ => 0
def PV.dps : List PV → Nat
  | [] => 0
  | x :: xs => max (PV.dp x) (PV.dps xs)
end
mutual
theorem lay_pl : ∀ x : PV, x.pl = true → x.toD.canLay0 = true ∧ x.toD.depth = x.dp
  | .non, _ => ⟨by simp [PV.toD, PyData.canLay0], by simp [PV.toD, PyData.depth, PV.dp]⟩
  | .int _, _ => ⟨by simp [PV.toD, PyData.canLay0], by simp [PV.toD, PyData.depth, PV.dp]⟩
  | .tup xs, h => by
    have := lay_pls xs (by simpa [PV.pl] using h)
    exact ⟨by simp [PV.toD, PyData.canLay0, this.1], by simp [PV.toD, PyData.depth, PV.dp, this.2]⟩
  | .lst xs, h => by
    have := lay_pls xs (by simpa [PV.pl] using h)
    exact ⟨by simp [PV.toD, PyData.canLay0, this.1], by simp [PV.toD, PyData.depth, PV.dp, this.2]⟩
  | .bl _, h => by simp [PV.pl] at h
  | .str _, h => by simp [PV.pl] at h
theorem lay_pls : ∀ xs : List PV, PV.pls xs = true → PyData.canLayAll0 (PV.toDs xs) = true ∧ PyData.depthAll (PV.toDs xs) = PV.dps xs
  | [], _ => ⟨by simp [PV.toDs, PyData.canLayAll0], by simp [PV.toDs, PyData.depthAll, PV.dps]⟩
  | x :: xs, h => by
    have h' : x.pl = true ∧ PV.pls xs = true := by simpa [PV.pls] using h
    have h1 := lay_pl x h'.1
    have h2 := lay_pls xs h'.2
    exact ⟨by simp [PV.toDs, PyData.canLayAll0, h1.1, h2.1], by simp [PV.toDs, PyData.depthAll, PV.dps, h1.2, h2.2]⟩
end
mutual
theorem eqv_pl : ∀ x y : PV, x.pl = true → y.pl = true → (PyData.eqv x.toD y.toD = true ↔ x = y)
  | .non, y, _, hy => by cases y <;> simp [PV.toD, PyData.eqv, PV.pl] at hy ⊢
  | .int i, y, _, hy => by cases y <;> simp [PV.toD, PyData.eqv, PV.pl] at hy ⊢
  | .tup xs, y, hx, hy => by
    cases y with
    | tup ys =>
      have := eqv_pls xs ys (by simpa [PV.pl] using hx) (by simpa [PV.pl] using hy)
      simp [PV.toD, PyData.eqv, this]
    | _ => simp [PV.toD, PyData.eqv, PV.pl] at hy ⊢
  | .lst xs, y, hx, hy => by
    cases y with
    | lst ys =>
      have := eqv_pls xs ys (by simpa [PV.pl] using hx) (by simpa [PV.pl] using hy)
      simp [PV.toD, PyData.eqv, this]
    | _ => simp [PV.toD, PyData.eqv, PV.pl] at hy ⊢
  | .bl _, _, h, _ => by simp [PV.pl] at h
  | .str _, _, h, _ => by simp [PV.pl] at h
theorem eqv_pls : ∀ xs ys : List PV, PV.pls xs = true → PV.pls ys = true → (PyData.eqvAll (PV.toDs xs) (PV.toDs ys) = true ↔ xs = ys)
  | [], ys, _, _ => by cases ys <;> simp [PV.toDs, PyData.eqvAll]
  | x :: xs, ys, hx, hy => by
    cases ys with
    | nil => simp [PV.toDs, PyData.eqvAll]
    | cons y ys =>
      have hx' : x.pl = true ∧ PV.pls xs = true := by simpa [PV.pls] using hx
      have hy' : y.pl = true ∧ PV.pls ys = true := by simpa [PV.pls] using hy
      have h1 := eqv_pl x y hx'.1 hy'.1
      have h2 := eqv_pls xs ys hx'.2 hy'.2
      simp [PV.toDs, PyData.eqvAll, h1, h2]
end
open Classical in
theorem eqD_pl {x y : PV} (hx : x.pl = true) (hy : y.pl = true) (dx : x.dp ≤ 64) (dy : y.dp ≤ 64) : eqD x y = some (decide (x = y)) := by
  unfold eqD
  obtain ⟨a1, a2⟩ := lay_pl x hx
  obtain ⟨b1, b2⟩ := lay_pl y hy
  rw [if_pos]
  · congr 1
    rw [Bool.eq_iff_iff, eqv_pl x y hx hy]
    simp
  · unfold SeqAt.shaped
    rw [a1, b1, a2, b2]
    simp [dx, dy]
theorem eqD_self {x : PV} (hx : x.pl = true) (dx : x.dp ≤ 64) : eqD x x = some true := by
  rw [eqD_pl hx hx dx dx]
  simp
theorem pls_all {xs : List PV} : PV.pls xs = true ↔ ∀ x ∈ xs, x.pl = true := by
  induction xs with
  | nil => simp [PV.pls]
  | cons x xs ih => simp [PV.pls, ih]
theorem dps_le {xs : List PV} {n : Nat} : PV.dps xs ≤ n ↔ ∀ x ∈ xs, x.dp ≤ n := by
  induction xs with
  | nil => simp [PV.dps]
  | cons x xs ih => simp only [PV.dps, List.mem_cons, forall_eq_or_imp, ← ih]; omega
end Pv

/-! Part R: fractions, their sizes, Euclid -/
namespace Pv
open PySem L2

/-! ### sizes -/
def nb (n : Nat) : Nat := n.log2 + 1
theorem lt_nb (n : Nat) : n < 2 ^ nb n := Nat.lt_log2_self
theorem nb_pos (n : Nat) : 0 < nb n := Nat.succ_pos _
theorem nb_le {n k : Nat} (h : n < 2 ^ k) (hk : 0 < k) : nb n ≤ k := by
  unfold nb
  by_cases h0 : n = 0
  · subst h0
    have : Nat.log2 0 = 0 := by decide
    omega
  · have := (Nat.log2_lt (k := k) h0).mpr h
    omega
theorem nb_mono {a b : Nat} (h : a ≤ b) : nb a ≤ nb b := nb_le (Nat.lt_of_le_of_lt h (lt_nb b)) (nb_pos b)
theorem nb_mul (a b : Nat) : nb (a * b) ≤ nb a + nb b := by
  refine nb_le ?_ (by have := nb_pos a; omega)
  rw [Nat.pow_add]
  have h1 := lt_nb a
  have h2 := lt_nb b
  exact Nat.lt_of_le_of_lt (Nat.mul_le_mul_left a (Nat.le_of_lt h2)) (Nat.mul_lt_mul_of_pos_right h1 (Nat.two_pow_pos _))
theorem nb_add (a b : Nat) : nb (a + b) ≤ max (nb a) (nb b) + 1 := by
  refine nb_le ?_ (by omega)
  rw [Nat.pow_succ]
  have h1 := lt_nb a
  have h2 := lt_nb b
  have h3 : 2 ^ nb a ≤ 2 ^ max (nb a) (nb b) := Nat.pow_le_pow_right (by omega) (by omega)
  have h4 : 2 ^ nb b ≤ 2 ^ max (nb a) (nb b) := Nat.pow_le_pow_right (by omega) (by omega)
  omega
theorem mulOk_nb {i j : Int} (h : nb i.natAbs + nb j.natAbs ≤ 1000000) : mulOk i j = true := by
  unfold nb at h
  unfold mulOk
  simp only [decide_eq_true_eq]
  omega
theorem divOk_nb {j : Int} (h0 : j ≠ 0) (h : nb j.natAbs ≤ 9000) : divOk j = true := by
  unfold nb at h
  unfold divOk
  simp only [Bool.and_eq_true, decide_eq_true_eq]
  exact ⟨h0, by omega⟩
def bz (q : Rat) : Nat := max (nb q.num.natAbs) (nb q.den)
theorem bz_num (q : Rat) : nb q.num.natAbs ≤ bz q := Nat.le_max_left ..
theorem bz_den (q : Rat) : nb q.den ≤ bz q := Nat.le_max_right ..
theorem bz_divInt {n d : Int} {k : Nat} (hn : nb n.natAbs ≤ k) (hd : nb d.natAbs ≤ k) : bz (Rat.divInt n d) ≤ k := by
  have hk : 0 < k := Nat.lt_of_lt_of_le (nb_pos _) hn
  unfold bz
  rw [Rat.num_divInt, Rat.den_divInt]
  refine Nat.max_le.mpr ⟨Nat.le_trans (nb_mono ?_) hn, ?_⟩
  · rw [Int.natAbs_ediv_of_dvd]
    · rw [Int.natAbs_mul]
      refine Nat.le_trans (Nat.div_le_self _ _) ?_
      have : d.sign.natAbs ≤ 1 := by
        rcases Int.lt_trichotomy d 0 with h | h | h
        · rw [Int.sign_eq_neg_one_of_neg h]; decide
        · rw [h]; decide
        · rw [Int.sign_eq_one_of_pos h]; decide
      calc d.sign.natAbs * n.natAbs ≤ 1 * n.natAbs := Nat.mul_le_mul_right _ this
        _ = n.natAbs := Nat.one_mul _
    · exact Int.dvd_mul_of_dvd_right (Int.gcd_dvd_right ..)
  · split
    · exact nb_le (Nat.one_lt_two_pow (by omega)) hk
    · exact Nat.le_trans (nb_mono (Nat.div_le_self _ _)) hd
theorem add_divInt (x y : Rat) : x + y = Rat.divInt (x.num * y.den + y.num * x.den) (x.den * y.den) := by
  have h1 : (x.den : Int) ≠ 0 := by have := x.den_nz; omega
  have h2 : (y.den : Int) ≠ 0 := by have := y.den_nz; omega
  have := Rat.divInt_add_divInt x.num y.num h1 h2
  rw [Rat.num_divInt_den, Rat.num_divInt_den] at this
  exact this
theorem mul_divInt (x y : Rat) : x * y = Rat.divInt (x.num * y.num) (x.den * y.den) := by
  have := Rat.divInt_mul_divInt x.num y.num (d₁ := x.den) (d₂ := y.den)
  rw [Rat.num_divInt_den, Rat.num_divInt_den] at this
  exact this
theorem sub_divInt (x y : Rat) : x - y = Rat.divInt (x.num * y.den - y.num * x.den) (x.den * y.den) := by
  have := add_divInt x (-y)
  rw [show x - y = x + -y from Rat.sub_eq_add_neg .., this]
  have h1 : (-y).num = - y.num := rfl
  have h2 : (-y).den = y.den := rfl
  rw [h1, h2]
  congr 1
  rw [Int.neg_mul]
  omega
theorem nb_mulI (a b : Int) : nb (a * b).natAbs ≤ nb a.natAbs + nb b.natAbs := by rw [Int.natAbs_mul]; exact nb_mul ..
theorem nb_addI (a b : Int) : nb (a + b).natAbs ≤ max (nb a.natAbs) (nb b.natAbs) + 1 := Nat.le_trans (nb_mono (Int.natAbs_add_le ..)) (nb_add ..)
theorem nb_subI (a b : Int) : nb (a - b).natAbs ≤ max (nb a.natAbs) (nb b.natAbs) + 1 := Nat.le_trans (nb_mono (Int.natAbs_sub_le ..)) (nb_add ..)
theorem bz_add (x y : Rat) : bz (x + y) ≤ bz x + bz y + 1 := by
  rw [add_divInt]
  have a1 := bz_num x
  have a2 := bz_den x
  have b1 := bz_num y
  have b2 := bz_den y
  refine bz_divInt ?_ ?_
  · refine Nat.le_trans (nb_addI ..) ?_
    have := nb_mulI x.num y.den
    have := nb_mulI y.num x.den
    simp only [Int.natAbs_natCast] at *
    omega
  · refine Nat.le_trans (nb_mulI ..) ?_
    simp only [Int.natAbs_natCast] at *
    omega
theorem bz_sub (x y : Rat) : bz (x - y) ≤ bz x + bz y + 1 := by
  rw [sub_divInt]
  have a1 := bz_num x
  have a2 := bz_den x
  have b1 := bz_num y
  have b2 := bz_den y
  refine bz_divInt ?_ ?_
  · refine Nat.le_trans (nb_subI ..) ?_
    have := nb_mulI x.num y.den
    have := nb_mulI y.num x.den
    simp only [Int.natAbs_natCast] at *
    omega
  · refine Nat.le_trans (nb_mulI ..) ?_
    simp only [Int.natAbs_natCast] at *
    omega
theorem bz_mul (x y : Rat) : bz (x * y) ≤ bz x + bz y := by
  rw [mul_divInt]
  have a1 := bz_num x
  have a2 := bz_den x
  have b1 := bz_num y
  have b2 := bz_den y
  refine bz_divInt ?_ ?_
  · refine Nat.le_trans (nb_mulI ..) ?_
    omega
  · refine Nat.le_trans (nb_mulI ..) ?_
    simp only [Int.natAbs_natCast] at *
    omega
theorem bz_neg (x : Rat) : bz (-x) = bz x := by
  unfold bz
  have h1 : (-x).num = - x.num := rfl
  have h2 : (-x).den = x.den := rfl
  rw [h1, h2, Int.natAbs_neg]

/-! ### Euclid -/
theorem gcd_step (a b : Nat) : Nat.gcd b (a % b) = Nat.gcd a b := by rw [Nat.gcd_comm, ← Nat.gcd_rec, Nat.gcd_comm]
theorem mod_half {a b k : Nat} (hb : b < 2 ^ (k + 1)) (h : a % b ≠ 0) (h0 : b ≠ 0) : b % (a % b) < 2 ^ k := by
  have h1 : a % b < b := Nat.mod_lt _ (by omega)
  have h2 : b % (a % b) < a % b := Nat.mod_lt _ (by omega)
  have h3 := Nat.div_add_mod b (a % b)
  have h4 : 1 ≤ b / (a % b) := (Nat.one_le_div_iff (by omega)).mpr (by omega)
  have h5 : a % b * 1 ≤ a % b * (b / (a % b)) := Nat.mul_le_mul_left _ h4
  rw [Nat.pow_succ] at hb
  omega
theorem euclid_wh {test : PV × PV → Option Bool} {step : PV × PV → (PV × PV → Out) → (PV × PV → Out) → Out} {K : PV × PV → Out}
    (ht : ∀ a b : Nat, test (.int a, .int b) = some (decide (b ≠ 0))) (hs : ∀ a b : Nat, b ≠ 0 → ∀ kn kb, step (.int a, .int b) kn kb = kn (.int b, .int (a % b : Nat))) :
    ∀ (k a b w : Nat), b < 2 ^ k → 2 * k + 1 ≤ w → whC test step K w (.int a, .int b) = K (.int (Nat.gcd a b), .int (0 : Nat))
  | 0, a, b, w, hb, hw => by
    obtain ⟨w, rfl⟩ : ∃ v, w = v + 1 := ⟨w - 1, by omega⟩
    have : b = 0 := by simp at hb; exact hb
    subst this
    unfold whC
    rw [ht]
    simp
  | k + 1, a, b, w, hb, hw => by
    obtain ⟨w, rfl⟩ : ∃ v, w = v + 1 := ⟨w - 1, by omega⟩
    unfold whC
    rw [ht]
    by_cases h0 : b = 0
    · subst h0; simp
    · simp only [ne_eq, h0, not_false_eq_true, decide_true, ob_some, if_true]
      rw [hs a b h0]
      show whC test step K w (.int b, .int (a % b : Nat)) = _
      obtain ⟨w, rfl⟩ : ∃ v, w = v + 1 := ⟨w - 1, by omega⟩
      unfold whC
      rw [ht]
      by_cases h1 : a % b = 0
      · rw [h1, ← gcd_step a b, h1]; simp
      · simp only [ne_eq, h1, not_false_eq_true, decide_true, ob_some, if_true]
        rw [hs b (a % b) h1]
        show whC test step K w (.int (a % b : Nat), .int (b % (a % b) : Nat)) = _
        rw [euclid_wh ht hs k (a % b) (b % (a % b)) w (mod_half hb h1 h0) (by omega), gcd_step, gcd_step]
theorem euclid_for {step : PV → PV × PV → (PV × PV → Out) → (PV × PV → Out) → Out} {K : PV × PV → Out}
    (h0 : ∀ x (a : Nat) kn kb, step x (.int a, .int (0 : Nat)) kn kb = kb (.int a, .int (0 : Nat))) (hs : ∀ x (a b : Nat), b ≠ 0 → ∀ kn kb, step x (.int a, .int b) kn kb = kn (.int b, .int (a % b : Nat))) :
    ∀ (k a b n : Nat) (lo : Int), b < 2 ^ k → 2 * k + 1 ≤ n → forC step K (intsFrom lo n) (.int a, .int b) = K (.int (Nat.gcd a b), .int (0 : Nat))
  | 0, a, b, n, lo, hb, hn => by
    obtain ⟨n, rfl⟩ : ∃ v, n = v + 1 := ⟨n - 1, by omega⟩
    have : b = 0 := by simp at hb; exact hb
    subst this
    unfold intsFrom forC
    rw [h0]
    simp
  | k + 1, a, b, n, lo, hb, hn => by
    obtain ⟨n, rfl⟩ : ∃ v, n = v + 1 := ⟨n - 1, by omega⟩
    unfold intsFrom forC
    by_cases hb0 : b = 0
    · subst hb0
      rw [h0]
      simp
    · rw [hs _ a b hb0]
      show forC step K (intsFrom (lo + 1) n) (.int b, .int (a % b : Nat)) = _
      obtain ⟨n, rfl⟩ : ∃ v, n = v + 1 := ⟨n - 1, by omega⟩
      unfold intsFrom forC
      by_cases h1 : a % b = 0
      · rw [h1, h0, ← gcd_step a b, h1]; simp
      · rw [hs _ b (a % b) h1]
        show forC step K (intsFrom (lo + 1 + 1) n) (.int (a % b : Nat), .int (b % (a % b) : Nat)) = _
        rw [euclid_for h0 hs k (a % b) (b % (a % b)) n _ (mod_half hb h1 hb0) (by omega), gcd_step, gcd_step]

/-! ### fractions -/
def fr (q : Rat) : PV := .tup [.int q.num, .int q.den]
@[simp] theorem fr0 {q : Rat} : ix (fr q) (.int 0) = sh (.int q.num) := ix_t0
@[simp] theorem fr1 {q : Rat} : ix (fr q) (.int 1) = sh (.int q.den) := ix_t1
theorem fr_inj {x y : Rat} : fr x = fr y ↔ x = y := by
  constructor
  · intro h
    unfold fr at h
    simp only [PV.tup.injEq, List.cons.injEq, PV.int.injEq, Int.natCast_inj, and_true] at h
    exact Rat.ext h.1 h.2
  · rintro rfl; rfl
@[simp] theorem fr_pl {x : Rat} : (fr x).pl = true := by simp [fr, PV.pl, PV.pls]
@[simp] theorem fr_dp {x : Rat} : (fr x).dp = 1 := by simp [fr, PV.dp, PV.dps]
theorem fr_flat {x : Rat} : (fr x).flat = true := by simp [fr, PV.flat, PV.flats]
@[simp] theorem eqD_fr {x y : Rat} : eqD (fr x) (fr y) = some (decide (x = y)) := by
  rw [eqD_pl fr_pl fr_pl (by simp) (by simp)]
  congr 1
  simp [fr_inj]
theorem divInt_parts {n d : Int} {s : Int} (hd : d ≠ 0) (hs : s = if d < 0 then -(Int.gcd n d : Int) else (Int.gcd n d : Int)) : n.fdiv s = (Rat.divInt n d).num ∧ d.fdiv s = (Rat.divInt n d).den := by
  have hg : (Int.gcd n d : Int) ≠ 0 := by
    intro h
    have : Int.gcd n d = 0 := by omega
    exact hd (Int.gcd_eq_zero_iff.mp this).2
  have hg0 : (0 : Int) < Int.gcd n d := by omega
  obtain ⟨n', hn⟩ := Int.gcd_dvd_left (a := n) (b := d)
  obtain ⟨d', hd'⟩ := Int.gcd_dvd_right (a := n) (b := d)
  rw [Rat.num_divInt, Rat.den_divInt, if_neg hd, Int.gcd_comm d n]
  generalize hG : (Int.gcd n d : Nat) = g at *
  by_cases hneg : d < 0
  · rw [if_pos hneg] at hs
    subst hs
    have hd'neg : d' < 0 := by
      rcases Int.lt_or_le d' 0 with h | h
      · exact h
      · have : 0 ≤ (g : Int) * d' := Int.mul_nonneg (by omega) h
        omega
    rw [Int.sign_eq_neg_one_of_neg hneg]
    constructor
    · rw [hn, show (g : Int) * n' = (-(g : Int)) * (-n') by rw [Int.neg_mul_neg], Int.mul_fdiv_cancel_left _ (by omega), show -1 * (-(g : Int) * -n') = (g : Int) * (-n') by rw [Int.neg_mul_neg, Int.neg_one_mul, Int.mul_neg], Int.mul_ediv_cancel_left _ hg]
    · have e : d.natAbs / g = d'.natAbs := by rw [hd', Int.natAbs_mul, Int.natAbs_natCast]; exact Nat.mul_div_cancel_left _ (by omega)
      rw [e]
      conv => lhs; rw [hd', show (g : Int) * d' = (-(g : Int)) * (-d') by rw [Int.neg_mul_neg]]
      rw [Int.mul_fdiv_cancel_left _ (by omega)]
      omega
  · rw [if_neg hneg] at hs
    subst hs
    have hd'pos : 0 ≤ d' := by
      rcases Int.lt_or_le d' 0 with h | h
      · have : (g : Int) * d' < 0 := Int.mul_neg_of_pos_of_neg hg0 h
        omega
      · exact h
    rw [Int.sign_eq_one_of_pos (by omega)]
    constructor
    · rw [hn, Int.mul_fdiv_cancel_left _ hg, Int.one_mul, Int.mul_ediv_cancel_left _ hg]
    · have e : d.natAbs / g = d'.natAbs := by rw [hd', Int.natAbs_mul, Int.natAbs_natCast]; exact Nat.mul_div_cancel_left _ (by omega)
      rw [e]
      conv => lhs; rw [hd']
      rw [Int.mul_fdiv_cancel_left _ hg]
      omega
end Pv

/-! Part T: the numbers' defs, by their mirrors -/
namespace Pv
open PySem L2
def mm_common (C : Str → List PV → Out) (v_a v_b : PV) : Out :=
  jn (fun (s2 : PV × PV) => jn (fun (s6 : PV × PV) => some (s6.1, false)) fun j5 => whC (fun (s7 : PV × PV) => cmp .Gt s7.2 (.int 0)) (fun (s7 : PV × PV) k9 k10 => (op2 .Mod s7.1 s7.2).bind fun p11 => k9 (s7.2, p11.1)) (fun (s12 : PV × PV) => j5 (s12.1, s12.2)) 100000 (s2.1, s2.2)) fun j1 => (bltV "abs" [v_a]).bind fun p3 => (bltV "abs" [v_b]).bind fun p4 => j1 (p3.1, p4.1)
def mm_fraction (C : Str → List PV → Out) (v_number v_divisor : PV) : Out :=
  jn (fun (s2 : PV) => jn (fun (s6 : PV) => (((op2 .FloorDiv v_number s6).bind fun p10 => ((op2 .FloorDiv v_divisor s6).bind fun p9 => some [p9.1]).map fun q11 => p10.1 :: q11).bind fun q12 => sh (.tup q12)).bind fun p13 => some (p13.1, p13.2)) fun j5 => (cmp .Lt v_divisor (.int 0)).bind fun t8 => if t8 then (neg1 s2).bind fun p7 => j5 p7.1 else j5 s2) fun j1 => (cmp .Eq v_divisor (.int 0)).bind fun t3 => if t3 then none else (cl1 (C "common" [v_number, v_divisor])).bind fun p4 => j1 p4.1
def mm_plus (C : Str → List PV → Out) (v_a v_b : PV) : Out :=
  (((((ix v_a (.int 0)).bind fun p1 => (ix v_b (.int 1)).bind fun p2 => op2 .Mult p1.1 p2.1).bind fun p3 => ((ix v_b (.int 0)).bind fun p4 => (ix v_a (.int 1)).bind fun p5 => op2 .Mult p4.1 p5.1).bind fun p6 => op2 .Add p3.1 p6.1).bind fun p10 => (((ix v_a (.int 1)).bind fun p7 => (ix v_b (.int 1)).bind fun p8 => op2 .Mult p7.1 p8.1).bind fun p9 => some [p9.1]).map fun q11 => p10.1 :: q11).bind fun q12 => cl1 (C "fraction" (q12 ++ []))).bind fun p13 => some (p13.1, p13.2)
def mm_minus (C : Str → List PV → Out) (v_a v_b : PV) : Out :=
  (((((ix v_a (.int 0)).bind fun p1 => (ix v_b (.int 1)).bind fun p2 => op2 .Mult p1.1 p2.1).bind fun p3 => ((ix v_b (.int 0)).bind fun p4 => (ix v_a (.int 1)).bind fun p5 => op2 .Mult p4.1 p5.1).bind fun p6 => op2 .Sub p3.1 p6.1).bind fun p10 => (((ix v_a (.int 1)).bind fun p7 => (ix v_b (.int 1)).bind fun p8 => op2 .Mult p7.1 p8.1).bind fun p9 => some [p9.1]).map fun q11 => p10.1 :: q11).bind fun q12 => cl1 (C "fraction" (q12 ++ []))).bind fun p13 => some (p13.1, p13.2)
def mm_times (C : Str → List PV → Out) (v_a v_b : PV) : Out :=
  ((((ix v_a (.int 0)).bind fun p1 => (ix v_b (.int 0)).bind fun p2 => op2 .Mult p1.1 p2.1).bind fun p6 => (((ix v_a (.int 1)).bind fun p3 => (ix v_b (.int 1)).bind fun p4 => op2 .Mult p3.1 p4.1).bind fun p5 => some [p5.1]).map fun q7 => p6.1 :: q7).bind fun q8 => cl1 (C "fraction" (q8 ++ []))).bind fun p9 => some (p9.1, p9.2)
def mm_less (C : Str → List PV → Out) (v_a v_b : PV) : Out :=
  (((ix v_a (.int 0)).bind fun p1 => (ix v_b (.int 1)).bind fun p2 => op2 .Mult p1.1 p2.1).bind fun p3 => ((ix v_b (.int 0)).bind fun p4 => (ix v_a (.int 1)).bind fun p5 => op2 .Mult p4.1 p5.1).bind fun p6 => cmpV .Lt p3.1 p6.1).bind fun p7 => some (p7.1, p7.2)
def mm_sign (C : Str → List PV → Out) (v_a : PV) : Out :=
  ((ix v_a (.int 0)).bind fun p4 => cmp .Lt p4.1 (.int 0)).bind fun t1 => if t1 then sh (.int (-1)) else ((ix v_a (.int 0)).bind fun p3 => cmp .Gt p3.1 (.int 0)).bind fun t2 => if t2 then sh (.int 1) else sh (.int 0)
def mm_bare (C : Str → List PV → Out) (v_a : PV) : Out :=
  (((((ix v_a (.int 0)).bind fun p1 => some [p1.1]).bind fun q2 => bltV "abs" q2).bind fun p4 => ((ix v_a (.int 1)).bind fun p3 => some [p3.1]).map fun q5 => p4.1 :: q5).bind fun q6 => sh (.tup q6)).bind fun p7 => some (p7.1, p7.2)
def mm__law_is_integer (C : Str → List PV → Out) (v_actual : PV) : Out :=
  ((insV "int" v_actual).bind fun p2 => (blOf p2.1).bind fun b1 => if b1 then (insV "bool" v_actual).bind fun p3 => not1 p3.1 else sh (.bl false)).bind fun p4 => some (p4.1, p4.2)
def mm__law_is_truth (C : Str → List PV → Out) (v_actual v_due : PV) : Out :=
  ((insV "bool" v_actual).bind fun p2 => (blOf p2.1).bind fun b1 => if b1 then cmpV .Eq v_actual v_due else sh (.bl false)).bind fun p3 => some (p3.1, p3.2)
def mm__law_cell (C : Str → List PV → Out) (v_script v_k : PV) : Out :=
  ((bltV "len" [v_script]).bind fun p7 => cmp .Lt v_k p7.1).bind fun t1 => if t1 then (((((ix v_script v_k).bind fun p2 => some [p2.1]).bind fun q3 => bltV "int" q3).bind fun p4 => some [p4.1]).bind fun q5 => bltV "abs" q5).bind fun p6 => some (p6.1, p6.2) else sh (.int 0)
def mm__law_row (C : Str → List PV → Out) (v_cell v_size v_base : PV) : Out :=
  jn (fun (s2 : List PV × PV) => jn (fun (s4 : List PV × PV) => some (.lst s4.1, true)) fun j3 => (rng1 v_size).bind fun xs55 => forC (fun x31 (s5 : List PV × PV) k29 k30 => ((op2 .Pow (.int 10) (.int 18)).bind fun p53 => cmp .GtE v_cell p53.1).bind fun t52 => if t52 then ((bltV "int" [s5.2]).bind fun p32 => op2 .Mod p32.1 v_base).bind fun p33 => (pushO s5.1 p33.1).bind fun ys34 => (op2 .FloorDiv s5.2 v_base).bind fun p35 => k29 (ys34, p35.1) else ((((((bltV "int" [v_cell]).bind fun p36 => op2 .Mod p36.1 (.int 1000003)).bind fun p37 => op2 .Mult p37.1 (.int 48271)).bind fun p38 => (op2 .Mult x31 (.int 69621)).bind fun p39 => op2 .Add p38.1 p39.1).bind fun p40 => (op2 .FloorDiv v_cell (.int 1000003)).bind fun p41 => op2 .Add p40.1 p41.1).bind fun p42 => op2 .Mod p42.1 (.int 2147483647)).bind fun p43 => ((((op2 .Mult p43.1 (.int 16807)).bind fun p44 => (op2 .Mult x31 (.int 12345)).bind fun p45 => op2 .Add p44.1 p45.1).bind fun p46 => op2 .Add p46.1 (.int 99991)).bind fun p47 => op2 .Mod p47.1 (.int 2147483629)).bind fun p48 => ((op2 .FloorDiv p48.1 (.int 7)).bind fun p49 => op2 .Mod p49.1 v_base).bind fun p50 => (pushO s5.1 p50.1).bind fun ys51 => k29 (ys51, s5.2)) (fun (s54 : List PV × PV) => j3 (s54.1, s54.2)) xs55 (s2.1, s2.2)) fun j1 => j1 ([], v_cell)
def mm__law_fraction (C : Str → List PV → Out) (v_number v_divisor : PV) : Out :=
  jn (fun (s2 : PV × PV) => jn (fun (s6 : PV × PV) => jn (fun (s19 : PV) => (((op2 .FloorDiv v_number s19).bind fun p23 => ((op2 .FloorDiv v_divisor s19).bind fun p22 => some [p22.1]).map fun q24 => p23.1 :: q24).bind fun q25 => sh (.tup q25)).bind fun p26 => some (p26.1, p26.2)) fun j18 => (cmp .Lt v_divisor (.int 0)).bind fun t21 => if t21 then (neg1 s6.1).bind fun p20 => j18 p20.1 else j18 s6.1) fun j5 => (rng1 (.int 10000)).bind fun xs17 => forC (fun x13 (s7 : PV × PV) k11 k12 => (cmp .Eq s7.2 (.int 0)).bind fun t14 => if t14 then k12 (s7.1, s7.2) else (op2 .Mod s7.1 s7.2).bind fun p15 => k11 (s7.2, p15.1)) (fun (s16 : PV × PV) => j5 (s16.1, s16.2)) xs17 (s2.1, s2.2)) fun j1 => (bltV "abs" [v_number]).bind fun p3 => (bltV "abs" [v_divisor]).bind fun p4 => j1 (p3.1, p4.1)
def mm__law_plus (C : Str → List PV → Out) (v_a v_b : PV) : Out :=
  (((((ix v_a (.int 0)).bind fun p1 => (ix v_b (.int 1)).bind fun p2 => op2 .Mult p1.1 p2.1).bind fun p3 => ((ix v_b (.int 0)).bind fun p4 => (ix v_a (.int 1)).bind fun p5 => op2 .Mult p4.1 p5.1).bind fun p6 => op2 .Add p3.1 p6.1).bind fun p10 => (((ix v_a (.int 1)).bind fun p7 => (ix v_b (.int 1)).bind fun p8 => op2 .Mult p7.1 p8.1).bind fun p9 => some [p9.1]).map fun q11 => p10.1 :: q11).bind fun q12 => cl1 (C "_law_fraction" (q12 ++ []))).bind fun p13 => some (p13.1, p13.2)
def mm__law_minus (C : Str → List PV → Out) (v_a v_b : PV) : Out :=
  (((((ix v_a (.int 0)).bind fun p1 => (ix v_b (.int 1)).bind fun p2 => op2 .Mult p1.1 p2.1).bind fun p3 => ((ix v_b (.int 0)).bind fun p4 => (ix v_a (.int 1)).bind fun p5 => op2 .Mult p4.1 p5.1).bind fun p6 => op2 .Sub p3.1 p6.1).bind fun p10 => (((ix v_a (.int 1)).bind fun p7 => (ix v_b (.int 1)).bind fun p8 => op2 .Mult p7.1 p8.1).bind fun p9 => some [p9.1]).map fun q11 => p10.1 :: q11).bind fun q12 => cl1 (C "_law_fraction" (q12 ++ []))).bind fun p13 => some (p13.1, p13.2)
def mm__law_times (C : Str → List PV → Out) (v_a v_b : PV) : Out :=
  ((((ix v_a (.int 0)).bind fun p1 => (ix v_b (.int 0)).bind fun p2 => op2 .Mult p1.1 p2.1).bind fun p6 => (((ix v_a (.int 1)).bind fun p3 => (ix v_b (.int 1)).bind fun p4 => op2 .Mult p3.1 p4.1).bind fun p5 => some [p5.1]).map fun q7 => p6.1 :: q7).bind fun q8 => cl1 (C "_law_fraction" (q8 ++ []))).bind fun p9 => some (p9.1, p9.2)
def mm__law_bare (C : Str → List PV → Out) (v_a : PV) : Out :=
  (((((ix v_a (.int 0)).bind fun p1 => some [p1.1]).bind fun q2 => bltV "abs" q2).bind fun p4 => ((ix v_a (.int 1)).bind fun p3 => some [p3.1]).map fun q5 => p4.1 :: q5).bind fun q6 => sh (.tup q6)).bind fun p7 => some (p7.1, p7.2)
def mm__law_before (C : Str → List PV → Out) (v_a v_b : PV) : Out :=
  (((ix v_a (.int 0)).bind fun p1 => (ix v_b (.int 1)).bind fun p2 => op2 .Mult p1.1 p2.1).bind fun p3 => ((ix v_b (.int 0)).bind fun p4 => (ix v_a (.int 1)).bind fun p5 => op2 .Mult p4.1 p5.1).bind fun p6 => cmpV .Lt p3.1 p6.1).bind fun p7 => some (p7.1, p7.2)
def mm__law_is_fraction (C : Str → List PV → Out) (v_actual : PV) : Out :=
  ((((insV "tuple" v_actual).bind fun p21 => truth p21.1).map fun b20 => !b20).bind fun b22 => if b22 then some true else (bltV "len" [v_actual]).bind fun p23 => cmp .NotEq p23.1 (.int 2)).bind fun t1 => if t1 then sh (.bl false) else ((((((ix v_actual (.int 0)).bind fun p10 => some [p10.1]).bind fun q11 => cl1 (C "_law_is_integer" (q11 ++ []))).bind fun p12 => truth p12.1).map fun b9 => !b9).bind fun b13 => if b13 then some true else (((((ix v_actual (.int 1)).bind fun p15 => some [p15.1]).bind fun q16 => cl1 (C "_law_is_integer" (q16 ++ []))).bind fun p17 => truth p17.1).map fun b14 => !b14).bind fun b18 => if b18 then some true else (ix v_actual (.int 1)).bind fun p19 => cmp .Lt p19.1 (.int 1)).bind fun t2 => if t2 then sh (.bl false) else ((((ix v_actual (.int 0)).bind fun p4 => ((ix v_actual (.int 1)).bind fun p3 => some [p3.1]).map fun q5 => p4.1 :: q5).bind fun q6 => cl1 (C "_law_fraction" (q6 ++ []))).bind fun p7 => cmpV .Eq v_actual p7.1).bind fun p8 => some (p8.1, p8.2)
abbrev Cl := Str → List PV → Out
def S_common (C : Cl) : Prop := ∀ a b : Int, nb b.natAbs ≤ 9000 → C "common" [.int a, .int b] = sh (.int (Int.gcd a b))
def S_fraction (C : Cl) : Prop := ∀ n d : Int, d ≠ 0 → nb d.natAbs ≤ 9000 → C "fraction" [.int n, .int d] = sh (fr (Rat.divInt n d))
def S_lfraction (C : Cl) : Prop := ∀ n d : Int, d ≠ 0 → nb d.natAbs ≤ 4900 → C "_law_fraction" [.int n, .int d] = sh (fr (Rat.divInt n d))
def S_add (C : Cl) (f : Str) : Prop := ∀ x y : Rat, bz x + bz y ≤ 4900 → C f [fr x, fr y] = sh (fr (x + y))
def S_sub (C : Cl) (f : Str) : Prop := ∀ x y : Rat, bz x + bz y ≤ 4900 → C f [fr x, fr y] = sh (fr (x - y))
def S_mul (C : Cl) (f : Str) : Prop := ∀ x y : Rat, bz x + bz y ≤ 4900 → C f [fr x, fr y] = sh (fr (x * y))
def S_lt (C : Cl) (f : Str) : Prop := ∀ x y : Rat, bz x + bz y ≤ 4900 → C f [fr x, fr y] = sh (.bl (decide (x < y)))

theorem s_common (C : Cl) (a b : Int) (h : nb b.natAbs ≤ 9000) : mm_common C (.int a) (.int b) = sh (.int (Int.gcd a b)) := by
  unfold mm_common
  simp only [abs_int, sh_bind, jn_def]
  obtain ⟨w, hw⟩ : ∃ w : Nat, w = 100000 := ⟨_, rfl⟩
  rw [← hw]
  rw [euclid_wh (fun a b => by simp [Int.natCast_pos, Nat.pos_iff_ne_zero]) (fun a b h0 kn kb => by simp only []; rw [op2_mods (by omega), sh_bind]; rfl) 9000 a.natAbs b.natAbs w
    (Nat.lt_of_lt_of_le (lt_nb _) (Nat.pow_le_pow_right (by omega) h)) (by omega)]
  rfl
theorem s_frac {n d : Int} (hd : d ≠ 0) (h : nb d.natAbs ≤ 9000) {s : Int} (hs : s = if d < 0 then -(Int.gcd n d : Int) else (Int.gcd n d : Int)) :
    op2 .FloorDiv (.int n) (.int s) = sh (.int (Rat.divInt n d).num) ∧ op2 .FloorDiv (.int d) (.int s) = sh (.int (Rat.divInt n d).den) := by
  have hg : Int.gcd n d ≠ 0 := fun h => hd (Int.gcd_eq_zero_iff.mp h).2
  have hle : Int.gcd n d ≤ d.natAbs := Nat.le_of_dvd (by omega) (Int.ofNat_dvd_left.mp (Int.gcd_dvd_right ..))
  have hok : divOk s = true := by
    refine divOk_nb ?_ (Nat.le_trans (nb_mono ?_) h)
    · subst hs; split <;> omega
    · subst hs; split <;> omega
  obtain ⟨h1, h2⟩ := divInt_parts hd hs
  exact ⟨by rw [op2_div hok, h1], by rw [op2_div hok, h2]⟩
theorem s_fraction {C : Cl} (hc : S_common C) (n d : Int) (hd : d ≠ 0) (h : nb d.natAbs ≤ 9000) : mm_fraction C (.int n) (.int d) = sh (fr (Rat.divInt n d)) := by
  unfold mm_fraction
  simp only [cmp_eq, eqD_int, hd, decide_false, ob_some, Bool.false_eq_true, if_false, hc n d h, cl1_sh, sh_bind, jn_def, cmp_lt, neg1_int]
  by_cases hneg : d < 0
  · obtain ⟨h1, h2⟩ := s_frac (n := n) hd h (s := -(Int.gcd n d : Int)) (by rw [if_pos hneg])
    simp only [hneg, decide_true, if_true, h1, h2, sh_bind, ob_some, om_some]
    rfl
  · obtain ⟨h1, h2⟩ := s_frac (n := n) hd h (s := (Int.gcd n d : Int)) (by rw [if_neg hneg])
    simp only [hneg, decide_false, Bool.false_eq_true, if_false, h1, h2, sh_bind, ob_some, om_some]
    rfl
theorem s_lfraction (C : Cl) (n d : Int) (hd : d ≠ 0) (h : nb d.natAbs ≤ 4900) : mm__law_fraction C (.int n) (.int d) = sh (fr (Rat.divInt n d)) := by
  unfold mm__law_fraction
  simp only [abs_int, sh_bind, jn_def]
  have hr : rng1 (.int 10000) = some (intsFrom 0 10000) := rng1_ok (n := 10000) (by omega)
  rw [hr, ob_some]
  rw [euclid_for (fun x a kn kb => by simp) (fun x a b h0 kn kb => by
      have : ¬ (b : Int) = 0 := by omega
      simp only [cmp_eq, eqD_int, this, decide_false, ob_some, Bool.false_eq_true, if_false]
      rw [op2_mods (by omega), sh_bind]; rfl) 4900 n.natAbs d.natAbs 10000 0
    (Nat.lt_of_lt_of_le (lt_nb _) (Nat.pow_le_pow_right (by omega) h)) (by omega)]
  have hgcd : Nat.gcd n.natAbs d.natAbs = Int.gcd n d := rfl
  simp only [cmp_lt, ob_some, neg1_int, sh_bind, hgcd]
  by_cases hneg : d < 0
  · obtain ⟨h1, h2⟩ := s_frac (n := n) hd (by omega) (s := -(Int.gcd n d : Int)) (by rw [if_pos hneg])
    simp only [hneg, decide_true, if_true, h1, h2, sh_bind, ob_some, om_some]
    rfl
  · obtain ⟨h1, h2⟩ := s_frac (n := n) hd (by omega) (s := (Int.gcd n d : Int)) (by rw [if_neg hneg])
    simp only [hneg, decide_false, Bool.false_eq_true, if_false, h1, h2, sh_bind, ob_some, om_some]
    rfl
section
variable {x y : Rat}
theorem den_ne (x : Rat) : (x.den : Int) ≠ 0 := by have := x.den_nz; omega
theorem den_pos (x : Rat) : (0 : Int) < x.den := by have := x.den_pos; omega
theorem parts_ok (h : bz x + bz y ≤ 4900) : mulOk x.num y.den = true ∧ mulOk y.num x.den = true ∧ mulOk x.den y.den = true ∧ mulOk x.num y.num = true ∧ ((x.den : Int) * y.den ≠ 0) ∧ nb ((x.den : Int) * y.den).natAbs ≤ 4900 := by
  have a1 := bz_num x
  have a2 := bz_den x
  have b1 := bz_num y
  have b2 := bz_den y
  have hm := nb_mulI x.den y.den
  simp only [Int.natAbs_natCast] at hm
  refine ⟨mulOk_nb ?_, mulOk_nb ?_, mulOk_nb ?_, mulOk_nb ?_, Int.mul_ne_zero (den_ne x) (den_ne y), by omega⟩ <;> (try simp only [Int.natAbs_natCast]) <;> omega
end
theorem s_plus {C : Cl} (hc : S_fraction C) (x y : Rat) (h : bz x + bz y ≤ 4900) : mm_plus C (fr x) (fr y) = sh (fr (x + y)) := by
  obtain ⟨h1, h2, h3, h4, h5, h6⟩ := parts_ok h
  unfold mm_plus
  simp only [fr0, fr1, sh_bind, op2_mul h1, op2_mul h2, op2_mul h3, op2_add, ob_some, om_some, List.append_nil, hc _ _ h5 (by omega), cl1_sh, ← add_divInt]
  rfl
theorem s_minus {C : Cl} (hc : S_fraction C) (x y : Rat) (h : bz x + bz y ≤ 4900) : mm_minus C (fr x) (fr y) = sh (fr (x - y)) := by
  obtain ⟨h1, h2, h3, h4, h5, h6⟩ := parts_ok h
  unfold mm_minus
  simp only [fr0, fr1, sh_bind, op2_mul h1, op2_mul h2, op2_mul h3, op2_sub, ob_some, om_some, List.append_nil, hc _ _ h5 (by omega), cl1_sh, ← sub_divInt]
  rfl
theorem s_times {C : Cl} (hc : S_fraction C) (x y : Rat) (h : bz x + bz y ≤ 4900) : mm_times C (fr x) (fr y) = sh (fr (x * y)) := by
  obtain ⟨h1, h2, h3, h4, h5, h6⟩ := parts_ok h
  unfold mm_times
  simp only [fr0, fr1, sh_bind, op2_mul h4, op2_mul h3, ob_some, om_some, List.append_nil, hc _ _ h5 (by omega), cl1_sh, ← mul_divInt]
  rfl
theorem s_lplus {C : Cl} (hc : S_lfraction C) (x y : Rat) (h : bz x + bz y ≤ 4900) : mm__law_plus C (fr x) (fr y) = sh (fr (x + y)) := by
  obtain ⟨h1, h2, h3, h4, h5, h6⟩ := parts_ok h
  unfold mm__law_plus
  simp only [fr0, fr1, sh_bind, op2_mul h1, op2_mul h2, op2_mul h3, op2_add, ob_some, om_some, List.append_nil, hc _ _ h5 (by omega), cl1_sh, ← add_divInt]
  rfl
theorem s_lminus {C : Cl} (hc : S_lfraction C) (x y : Rat) (h : bz x + bz y ≤ 4900) : mm__law_minus C (fr x) (fr y) = sh (fr (x - y)) := by
  obtain ⟨h1, h2, h3, h4, h5, h6⟩ := parts_ok h
  unfold mm__law_minus
  simp only [fr0, fr1, sh_bind, op2_mul h1, op2_mul h2, op2_mul h3, op2_sub, ob_some, om_some, List.append_nil, hc _ _ h5 (by omega), cl1_sh, ← sub_divInt]
  rfl
theorem s_ltimes {C : Cl} (hc : S_lfraction C) (x y : Rat) (h : bz x + bz y ≤ 4900) : mm__law_times C (fr x) (fr y) = sh (fr (x * y)) := by
  obtain ⟨h1, h2, h3, h4, h5, h6⟩ := parts_ok h
  unfold mm__law_times
  simp only [fr0, fr1, sh_bind, op2_mul h4, op2_mul h3, ob_some, om_some, List.append_nil, hc _ _ h5 (by omega), cl1_sh, ← mul_divInt]
  rfl
theorem lt_parts (x y : Rat) : (x.num * y.den < y.num * x.den) ↔ x < y := (Rat.lt_iff x y).symm
theorem s_less (C : Cl) (x y : Rat) (h : bz x + bz y ≤ 4900) : mm_less C (fr x) (fr y) = sh (.bl (decide (x < y))) := by
  obtain ⟨h1, h2, h3, h4, h5, h6⟩ := parts_ok h
  unfold mm_less
  simp only [fr0, fr1, sh_bind, op2_mul h1, op2_mul h2, cmpV_def, cmp_lt, ob_some, lt_parts]
  rfl
theorem s_lbefore (C : Cl) (x y : Rat) (h : bz x + bz y ≤ 4900) : mm__law_before C (fr x) (fr y) = sh (.bl (decide (x < y))) := by
  obtain ⟨h1, h2, h3, h4, h5, h6⟩ := parts_ok h
  unfold mm__law_before
  simp only [fr0, fr1, sh_bind, op2_mul h1, op2_mul h2, cmpV_def, cmp_lt, ob_some, lt_parts]
  rfl
/-- the sign, and the size, of a fraction -/
def sgn (x : Rat) : Int := if x < 0 then -1 else if 0 < x then 1 else 0
def ab (x : Rat) : Rat := if x < 0 then -x else x
theorem num_neg_iff (x : Rat) : x.num < 0 ↔ x < 0 := by rw [Rat.lt_iff]; simp
theorem num_pos_iff (x : Rat) : 0 < x.num ↔ 0 < x := by rw [Rat.lt_iff]; simp
theorem num_zero_iff (x : Rat) : x.num = 0 ↔ x = 0 := Rat.num_eq_zero
theorem s_sign (C : Cl) (x : Rat) : mm_sign C (fr x) = sh (.int (sgn x)) := by
  unfold mm_sign sgn
  simp only [fr0, sh_bind, cmp_lt, cmp_gt, ob_some, num_neg_iff, num_pos_iff]
  by_cases h : x < 0
  · simp [h]
  · by_cases h2 : 0 < x <;> simp [h, h2]
theorem abs_fr (x : Rat) : PV.tup [.int x.num.natAbs, .int x.den] = fr (ab x) := by
  unfold ab fr
  by_cases h : x < 0
  · have := (num_neg_iff x).mpr h
    rw [if_pos h]
    have h1 : (-x).num = - x.num := rfl
    have h2 : (-x).den = x.den := rfl
    rw [h1, h2]
    congr 3
    omega
  · have := mt (num_neg_iff x).mp h
    rw [if_neg h]
    congr 3
    omega
theorem bz_ab (x : Rat) : bz (ab x) = bz x := by
  unfold ab
  split
  · exact bz_neg x
  · rfl
theorem s_bare (C : Cl) (x : Rat) : mm_bare C (fr x) = sh (fr (ab x)) := by
  unfold mm_bare
  simp only [fr0, fr1, sh_bind, ob_some, abs_int, om_some, abs_fr]
  rfl
theorem s_lbare (C : Cl) (x : Rat) : mm__law_bare C (fr x) = sh (fr (ab x)) := by
  unfold mm__law_bare
  simp only [fr0, fr1, sh_bind, ob_some, abs_int, om_some, abs_fr]
  rfl
theorem s_lint (C : Cl) (i : Int) : mm__law_is_integer C (.int i) = sh (.bl true) := by
  unfold mm__law_is_integer
  simp
  rfl
theorem s_ltruth (C : Cl) (a b : Bool) : mm__law_is_truth C (.bl a) (.bl b) = sh (.bl (decide (a = b))) := by
  unfold mm__law_is_truth
  have : eqD (.bl a) (.bl b) = some (decide (a = b)) := by cases a <;> cases b <;> decide +kernel
  simp [this]
  rfl
theorem divInt_self' (x : Rat) : Rat.divInt x.num x.den = x := Rat.num_divInt_den x
theorem s_lisfr {C : Cl} (hc : S_lfraction C) (hi : ∀ i, C "_law_is_integer" [.int i] = sh (.bl true)) (x : Rat) (h : bz x ≤ 4900) : mm__law_is_fraction C (fr x) = sh (.bl true) := by
  have hd : ¬ (x.den : Int) < 1 := by have := den_pos x; omega
  have hn := bz_den x
  have e : insV "tuple" (fr x) = sh (.bl true) := ins_tt
  have e2 : bltV "len" [fr x] = sh (.int 2) := rfl
  unfold mm__law_is_fraction
  simp only [e, e2, fr0, fr1, sh_bind, ob_some, truth_bl, om_some, Bool.not_true, Bool.false_eq_true, if_false, cmp_ne, eqD_int, decide_true, hi, List.append_nil, cl1_sh, cmp_lt, hd, decide_false,
    hc x.num x.den (den_ne x) (by simpa using Nat.le_trans hn h), divInt_self', cmpV_def, cmp_eq, eqD_fr]
  rfl
/-- the drawing -/
theorem s_lcell (C : Cl) (ns : List Int) : mm__law_cell C (.lst (ns.map .int)) (.int 0) = sh (.int ((ns.head?.getD 0).natAbs : Int)) := by
  unfold mm__law_cell
  cases ns with
  | nil => simp
  | cons n ns =>
    have : (0 : Int) < ((n :: ns).map PV.int).length := by simp
    simp only [len_lst, sh_bind, cmp_lt, this, decide_true, ob_some, if_true]
    simp
    rfl
theorem s_lcellk (C : Cl) (ns : List Int) (k : Nat) : mm__law_cell C (.lst (ns.map .int)) (.int k) = sh (.int ((ns.getD k 0).natAbs : Int)) := by
  unfold mm__law_cell
  simp only [len_lst, sh_bind, cmp_lt, ob_some, List.length_map]
  by_cases h : k < ns.length
  · have h' : (k : Int) < (ns.length : Int) := by omega
    have e : ix (.lst (ns.map .int)) (.int k) = sh (.int ns[k]) := ixL (by simp [h])
    simp only [h', decide_true, if_true, e, sh_bind, ob_some, int_int, abs_int]
    simp [h]
    rfl
  · have h' : ¬ (k : Int) < (ns.length : Int) := by omega
    simp only [h', decide_false, Bool.false_eq_true, if_false]
    simp [h]
theorem mulOk_of {i j : Int} (a b : Nat) (hi : i.natAbs < 2 ^ a) (hj : j.natAbs < 2 ^ b) (ha : 0 < a) (hb : 0 < b) (h : a + b ≤ 1000000) : mulOk i j = true :=
  mulOk_nb (by have := nb_le hi ha; have := nb_le hj hb; omega)
theorem pow18 : op2 .Pow (.int 10) (.int 18) = sh (.int (10 ^ 18)) := nr rfl
def mix (cell k base : Int) : Int := (((cell % 1000003 * 48271 + k * 69621 + cell / 1000003) % 2147483647 * 16807 + k * 12345 + 99991) % 2147483629) / 7 % base
theorem s_lrow (C : Cl) (cell size base : Nat) (hs : size ≤ 1000) (hb : 0 < base) (hb2 : base < 2 ^ 60) :
    ∃ f : Nat → Int, (∀ i, 0 ≤ f i ∧ f i < base) ∧ mm__law_row C (.int cell) (.int size) (.int base) = some (.lst (rl size fun i => .int (f i)), true) := by
  by_cases hc : (10 ^ 18 : Int) ≤ cell
  · refine ⟨fun i => ((cell / base ^ i : Nat) : Int) % base, fun i => ⟨Int.emod_nonneg _ (by omega), Int.emod_lt_of_pos _ (by omega)⟩, ?_⟩
    unfold mm__law_row
    simp only [jn_def, rng1_ok (show size ≤ 1000000 by omega), ob_some]
    rw [forC_rng size (fun k => (rl k fun i => .int (((cell / base ^ i : Nat) : Int) % base), PV.int (cell / base ^ k : Nat))) (by simp)]
    intro k hk kn kb
    simp only [pow18, sh_bind, cmp_ge, hc, decide_true, ob_some, if_true, int_int]
    rw [op2_mods (by omega), sh_bind, push_rl (by omega) rfl, ob_some, op2_divs (by omega) (by omega), sh_bind]
    congr 3
    show PV.int _ = PV.int _
    congr 1
    rw [Nat.pow_succ, ← Nat.div_div_eq_div_mul]
    simp
  · refine ⟨fun i => mix cell i base, fun i => ⟨Int.emod_nonneg _ (by omega), Int.emod_lt_of_pos _ (by omega)⟩, ?_⟩
    unfold mm__law_row
    simp only [jn_def, rng1_ok (show size ≤ 1000000 by omega), ob_some]
    rw [forC_rng size (fun k => (rl k fun i => .int (mix cell i base), PV.int cell)) (by simp)]
    intro k hk kn kb
    simp only [pow18, sh_bind, cmp_ge, hc, decide_false, ob_some, Bool.false_eq_true, if_false, int_int]
    rw [op2_mods (by omega), sh_bind, op2_mul (mulOk_of 60 60 (by have := Int.emod_lt_of_pos (cell : Int) (b := 1000003) (by omega); have := Int.emod_nonneg (cell : Int) (b := 1000003) (by omega); omega) (by omega) (by omega) (by omega) (by omega)), sh_bind,
      op2_mul (mulOk_of 60 60 (by omega) (by omega) (by omega) (by omega) (by omega)), sh_bind, op2_add, sh_bind, op2_divs (by omega) (by omega), sh_bind, op2_add, sh_bind, op2_mods (by omega), sh_bind]
    generalize hm : (((cell : Int) % 1000003 * 48271 + k * 69621 + cell / 1000003) % 2147483647) = m
    have m1 : 0 ≤ m := by rw [← hm]; exact Int.emod_nonneg _ (by omega)
    have m2 : m < 2147483647 := by rw [← hm]; exact Int.emod_lt_of_pos _ (by omega)
    rw [op2_mul (mulOk_of 60 60 (by omega) (by omega) (by omega) (by omega) (by omega)), sh_bind, op2_mul (mulOk_of 60 60 (by omega) (by omega) (by omega) (by omega) (by omega)), sh_bind, op2_add, sh_bind, op2_add, sh_bind, op2_mods (by omega), sh_bind,
      op2_divs (by omega) (by omega), sh_bind, op2_mods (by omega), sh_bind, push_rl (by omega) (by simp only [mix, hm]), ob_some]
end Pv

namespace K60
open PySem L2 Pv
def mm_value (C : Str → List PV → Out) (v_a v_setting : PV) : Out :=
  jn (fun (s2 : PV) => jn (fun (s5 : PV) => some (s5, false)) fun j4 => ((((ix v_a (.int 1)).bind fun p31 => some [p31.1]).bind fun q32 => bltV "len" q32).bind fun p33 => rng1 p33.1).bind fun xs30 => forC (fun x19 (s6 : PV) k17 k18 => (((((((ix v_a (.int 1)).bind fun p20 => ix p20.1 x19).bind fun p22 => ((ix v_setting x19).bind fun p21 => some [p21.1]).map fun q23 => p22.1 :: q23).bind fun q24 => cl1 (C "times" (q24 ++ []))).bind fun p25 => some [p25.1]).map fun q26 => s6 :: q26).bind fun q27 => cl1 (C "plus" (q27 ++ []))).bind fun p28 => k17 p28.1) (fun (s29 : PV) => j4 s29) xs30 s2) fun j1 => (ix v_a (.int 0)).bind fun p3 => j1 p3.1
def mm_swing (C : Str → List PV → Out) (v_worth v_weights : PV) : Out :=
  jn (fun (s2 : PV) => jn (fun (s4 : PV) => some (s4, false)) fun j3 => ((bltV "len" [v_weights]).bind fun p34 => rng1 p34.1).bind fun xs33 => forC (fun x20 (s5 : PV) k18 k19 => (((((((((ix v_worth (.int 1)).bind fun p21 => ix p21.1 x20).bind fun p22 => some [p22.1]).bind fun q23 => cl1 (C "bare" (q23 ++ []))).bind fun p25 => ((ix v_weights x20).bind fun p24 => some [p24.1]).map fun q26 => p25.1 :: q26).bind fun q27 => cl1 (C "times" (q27 ++ []))).bind fun p28 => some [p28.1]).map fun q29 => s5 :: q29).bind fun q30 => cl1 (C "plus" (q30 ++ []))).bind fun p31 => k18 p31.1) (fun (s32 : PV) => j3 s32) xs33 s2) fun j1 => j1 (.tup [(.int 0), (.int 1)])
def mm_extremes (C : Str → List PV → Out) (v_worth v_setting v_weights v_size : PV) : Out :=
  (cl1 (C "value" [v_worth, v_setting])).bind fun p1 => ((((cl1 (C "swing" [v_worth, v_weights])).bind fun p2 => some [p2.1]).map fun q3 => v_size :: q3).bind fun q4 => cl1 (C "times" (q4 ++ []))).bind fun p5 => (((cl1 (C "minus" [p1.1, p5.1])).bind fun p7 => ((cl1 (C "plus" [p1.1, p5.1])).bind fun p6 => some [p6.1]).map fun q8 => p7.1 :: q8).bind fun q9 => sh (.tup q9)).bind fun p10 => some (p10.1, p10.2)
def mm_corner_at (C : Str → List PV → Out) (v_worth v_setting v_weights v_size v_greatest : PV) : Out :=
  jn (fun (s2 : List PV) => jn (fun (s4 : List PV) => some (.lst s4, true)) fun j3 => ((bltV "len" [v_setting]).bind fun p54 => rng1 p54.1).bind fun xs53 => forC (fun x30 (s5 : List PV) k28 k29 => ((truth v_greatest).bind fun b31 => if b31 then (((ix v_worth (.int 1)).bind fun p32 => ix p32.1 x30).bind fun p33 => some [p33.1]).bind fun q34 => cl1 (C "sign" (q34 ++ [])) else ((((ix v_worth (.int 1)).bind fun p35 => ix p35.1 x30).bind fun p36 => some [p36.1]).bind fun q37 => cl1 (C "sign" (q37 ++ []))).bind fun p38 => neg1 p38.1).bind fun p39 => (((ix v_setting x30).bind fun p47 => ((((((((ix v_weights x30).bind fun p40 => some [p40.1]).map fun q41 => v_size :: q41).bind fun q42 => cl1 (C "times" (q42 ++ []))).bind fun p43 => some [p43.1]).map fun q44 => (.tup [p39.1, (.int 1)]) :: q44).bind fun q45 => cl1 (C "times" (q45 ++ []))).bind fun p46 => some [p46.1]).map fun q48 => p47.1 :: q48).bind fun q49 => cl1 (C "plus" (q49 ++ []))).bind fun p50 => (pushO s5 p50.1).bind fun ys51 => k28 ys51) (fun (s52 : List PV) => j3 s52) xs53 s2) fun j1 => j1 []
def mm_in_box (C : Str → List PV → Out) (v_setting v_weights v_size v_other : PV) : Out :=
  jn (fun (s2 : Unit) => sh (.bl true)) fun j1 => ((bltV "len" [v_setting]).bind fun p58 => rng1 p58.1).bind fun xs57 => forC (fun x31 (s3 : Unit) k29 k30 => jn (fun (s33 : PV) => (((ix v_weights x31).bind fun p53 => ix p53.1 (.int 0)).bind fun p54 => cmp .Eq p54.1 (.int 0)).bind fun t52 => if t52 then ((ix s33 (.int 0)).bind fun p42 => cmp .NotEq p42.1 (.int 0)).bind fun t41 => if t41 then sh (.bl false) else k29 () else (((((((((ix v_weights x31).bind fun p45 => some [p45.1]).map fun q46 => v_size :: q46).bind fun q47 => cl1 (C "times" (q47 ++ []))).bind fun p48 => some [p48.1]).map fun q49 => s33 :: q49).bind fun q50 => cl1 (C "less" (q50 ++ []))).bind fun p51 => truth p51.1).map fun b44 => !b44).bind fun t43 => if t43 then sh (.bl false) else k29 ()) fun j32 => (((((ix v_other x31).bind fun p35 => ((ix v_setting x31).bind fun p34 => some [p34.1]).map fun q36 => p35.1 :: q36).bind fun q37 => cl1 (C "minus" (q37 ++ []))).bind fun p38 => some [p38.1]).bind fun q39 => cl1 (C "bare" (q39 ++ []))).bind fun p40 => j32 p40.1) (fun (s56 : Unit) => j1 ()) xs57 ()
def mm__law_value (C : Str → List PV → Out) (v_worth v_setting : PV) : Out :=
  jn (fun (s2 : PV) => jn (fun (s5 : PV) => some (s5, false)) fun j4 => ((bltV "len" [v_setting]).bind fun p31 => rng1 p31.1).bind fun xs30 => forC (fun x19 (s6 : PV) k17 k18 => (((((((ix v_worth (.int 1)).bind fun p20 => ix p20.1 x19).bind fun p22 => ((ix v_setting x19).bind fun p21 => some [p21.1]).map fun q23 => p22.1 :: q23).bind fun q24 => cl1 (C "_law_times" (q24 ++ []))).bind fun p25 => some [p25.1]).map fun q26 => s6 :: q26).bind fun q27 => cl1 (C "_law_plus" (q27 ++ []))).bind fun p28 => k17 p28.1) (fun (s29 : PV) => j4 s29) xs30 s2) fun j1 => (ix v_worth (.int 0)).bind fun p3 => j1 p3.1
def mm__law_swing (C : Str → List PV → Out) (v_worth v_weights : PV) : Out :=
  jn (fun (s2 : PV) => jn (fun (s4 : PV) => some (s4, false)) fun j3 => ((bltV "len" [v_weights]).bind fun p34 => rng1 p34.1).bind fun xs33 => forC (fun x20 (s5 : PV) k18 k19 => (((((((((ix v_worth (.int 1)).bind fun p21 => ix p21.1 x20).bind fun p22 => some [p22.1]).bind fun q23 => cl1 (C "_law_bare" (q23 ++ []))).bind fun p25 => ((ix v_weights x20).bind fun p24 => some [p24.1]).map fun q26 => p25.1 :: q26).bind fun q27 => cl1 (C "_law_times" (q27 ++ []))).bind fun p28 => some [p28.1]).map fun q29 => s5 :: q29).bind fun q30 => cl1 (C "_law_plus" (q30 ++ []))).bind fun p31 => k18 p31.1) (fun (s32 : PV) => j3 s32) xs33 s2) fun j1 => j1 (.tup [(.int 0), (.int 1)])
def mm__law_corners (C : Str → List PV → Out) (v_setting v_weights v_size : PV) : Out :=
  jn (fun (s2 : List PV) => jn (fun (s4 : PV) => some (s4, false)) fun j3 => ((bltV "len" [v_setting]).bind fun p149 => rng1 p149.1).bind fun xs148 => forC (fun x101 (s52 : PV) k99 k100 => jn (fun (s103 : PV × List PV) => jn (fun (s109 : List PV) => k99 (.lst s109)) fun j108 => (seqOf s52).bind fun xs144 => forC (fun x128 (s110 : List PV) k126 k127 => ((((((ix v_setting x101).bind fun p129 => some [p129.1, s103.1]).bind fun q130 => cl1 (C "_law_minus" (q130 ++ []))).bind fun p131 => some [p131.1]).bind fun q132 => some (.lst q132, true)).bind fun p133 => op2 .Add x128 p133.1).bind fun p134 => (pushO s110 p134.1).bind fun ys135 => ((((((ix v_setting x101).bind fun p136 => some [p136.1, s103.1]).bind fun q137 => cl1 (C "_law_plus" (q137 ++ []))).bind fun p138 => some [p138.1]).bind fun q139 => some (.lst q139, true)).bind fun p140 => op2 .Add x128 p140.1).bind fun p141 => (pushO ys135 p141.1).bind fun ys142 => k126 ys142) (fun (s143 : List PV) => j108 s143) xs144 s103.2) fun j102 => ((((ix v_weights x101).bind fun p104 => some [p104.1]).map fun q105 => v_size :: q105).bind fun q106 => cl1 (C "_law_times" (q106 ++ []))).bind fun p107 => j102 (p107.1, [])) (fun (s147 : PV) => j3 s147) xs148 (.lst s2)) fun j1 => j1 [(.lst [])]
def mm__law_top (C : Str → List PV → Out) (v_worth v_setting v_weights v_size v_up : PV) : Out :=
  jn (fun (s2 : List PV) => jn (fun (s4 : List PV) => some (.lst s4, true)) fun j3 => ((bltV "len" [v_setting]).bind fun p58 => rng1 p58.1).bind fun xs57 => forC (fun x32 (s5 : List PV) k30 k31 => jn (fun (s34 : PV × PV) => (cmp .Gt s34.2 (.int 0)).bind fun t54 => if t54 then (((ix v_setting x32).bind fun p43 => some [p43.1, s34.1]).bind fun q44 => cl1 (C "_law_plus" (q44 ++ []))).bind fun p45 => (pushO s5 p45.1).bind fun ys46 => k30 ys46 else (cmp .Lt s34.2 (.int 0)).bind fun t53 => if t53 then (((ix v_setting x32).bind fun p47 => some [p47.1, s34.1]).bind fun q48 => cl1 (C "_law_minus" (q48 ++ []))).bind fun p49 => (pushO s5 p49.1).bind fun ys50 => k30 ys50 else (ix v_setting x32).bind fun p51 => (pushO s5 p51.1).bind fun ys52 => k30 ys52) fun j33 => ((((ix v_weights x32).bind fun p35 => some [p35.1]).map fun q36 => v_size :: q36).bind fun q37 => cl1 (C "_law_times" (q37 ++ []))).bind fun p38 => ((((ix v_worth (.int 1)).bind fun p39 => ix p39.1 x32).bind fun p40 => ix p40.1 (.int 0)).bind fun p41 => op2 .Mult p41.1 v_up).bind fun p42 => j33 (p38.1, p42.1)) (fun (s56 : List PV) => j3 s56) xs57 s2) fun j1 => j1 []
def mm__law_inside (C : Str → List PV → Out) (v_setting v_weights v_size v_other : PV) : Out :=
  jn (fun (s2 : Unit) => sh (.bl true)) fun j1 => ((bltV "len" [v_setting]).bind fun p64 => rng1 p64.1).bind fun xs63 => forC (fun x34 (s3 : Unit) k32 k33 => jn (fun (s36 : PV) => ((((ix v_weights x34).bind fun p50 => ix p50.1 (.int 0)).bind fun p51 => cmp .Gt p51.1 (.int 0)).bind fun b52 => if b52 then ((((((((ix v_weights x34).bind fun p54 => some [p54.1]).map fun q55 => v_size :: q55).bind fun q56 => cl1 (C "_law_times" (q56 ++ []))).bind fun p57 => some [p57.1]).map fun q58 => s36 :: q58).bind fun q59 => cl1 (C "_law_before" (q59 ++ []))).bind fun p60 => truth p60.1).map fun b53 => !b53 else some false).bind fun t49 => if t49 then sh (.bl false) else k32 ()) fun j35 => (((((ix v_other x34).bind fun p38 => ((ix v_setting x34).bind fun p37 => some [p37.1]).map fun q39 => p38.1 :: q39).bind fun q40 => cl1 (C "_law_minus" (q40 ++ []))).bind fun p41 => some [p41.1]).bind fun q42 => cl1 (C "_law_bare" (q42 ++ []))).bind fun p43 => ((((ix v_weights x34).bind fun p45 => ix p45.1 (.int 0)).bind fun p46 => cmp .Eq p46.1 (.int 0)).bind fun b47 => if b47 then (ix p43.1 (.int 0)).bind fun p48 => cmp .NotEq p48.1 (.int 0) else some false).bind fun t44 => if t44 then sh (.bl false) else j35 p43.1) (fun (s62 : Unit) => j1 ()) xs63 ()
def mm_law (C : Str → List PV → Out) (v_script : PV) : Out :=
  jn (fun (s2 : PV × PV × List PV) => jn (fun (s25 : PV × PV × List PV) => jn (fun (s55 : List PV × PV) => jn (fun (s79 : PV × PV × PV × PV × List PV) => jn (fun (s100 : PV × PV × PV) => jn (fun (s104 : PV × PV) => jn (fun (s127 : List PV × List PV) => jn (fun (s139 : Unit) => jn (fun (s149 : Unit) => jn (fun (s260 : Unit) => (((ix s79.2.2.1 (.int 0)).bind fun p306 => cmpV .Eq s79.1 p306.1).bind fun p308 => (blOf p308.1).bind fun b307 => if b307 then (ix s79.2.2.1 (.int 1)).bind fun p309 => cmpV .Eq s79.2.1 p309.1 else sh (.bl false)).bind fun p310 => some (p310.1, p310.2)) fun j259 => (rng1 s2.2.1).bind fun xs305 => forC (fun x284 (s261 : Unit) k282 k283 => (ownO (bltV "list" [s79.1])).bind fun ys285 => (((ix (.lst ys285) x284).bind fun p292 => (((((((ix s2.1 (.int 29)).bind fun p286 => op2 .Mod p286.1 (.int 7)).bind fun p287 => op2 .Add (.int 1) p287.1).bind fun p288 => some [p288.1]).map fun q289 => (.int 1) :: q289).bind fun q290 => cl1 (C "_law_fraction" (q290 ++ []))).bind fun p291 => some [p291.1]).map fun q293 => p292.1 :: q293).bind fun q294 => cl1 (C "_law_plus" (q294 ++ []))).bind fun p295 => if PV.flat p295.1 then (setIx ys285 x284 p295.1).bind fun ys296 => (((((cl1 (C "in_box" [s79.1, s79.2.1, s55.2, (.lst ys296)])).bind fun p300 => ((cl1 (C "_law_inside" [s79.1, s79.2.1, s55.2, (.lst ys296)])).bind fun p299 => some [p299.1]).map fun q301 => p300.1 :: q301).bind fun q302 => cl1 (C "_law_is_truth" (q302 ++ []))).bind fun p303 => truth p303.1).map fun b298 => !b298).bind fun t297 => if t297 then sh (.bl false) else k282 () else none) (fun (s304 : Unit) => j259 ()) xs305 ()) fun j148 => (rng1 (.int 4)).bind fun xs258 => forC (fun x205 (s150 : Unit) k203 k204 => jn (fun (s207 : PV × List PV) => jn (fun (s214 : List PV) => (((((cl1 (C "in_box" [s79.1, s79.2.1, s55.2, (.lst s214)])).bind fun p251 => ((cl1 (C "_law_inside" [s79.1, s79.2.1, s55.2, (.lst s214)])).bind fun p250 => some [p250.1]).map fun q252 => p251.1 :: q252).bind fun q253 => cl1 (C "_law_is_truth" (q253 ++ []))).bind fun p254 => truth p254.1).map fun b249 => !b249).bind fun t248 => if t248 then sh (.bl false) else k203 ()) fun j213 => (rng1 s2.2.1).bind fun xs247 => forC (fun x232 (s215 : List PV) k230 k231 => (((cl1 (C "_law_fraction" [x205, (.int 2)])).bind fun p238 => ((((ix s207.1 x232).bind fun p234 => ((ix s79.1 x232).bind fun p233 => some [p233.1]).map fun q235 => p234.1 :: q235).bind fun q236 => cl1 (C "_law_minus" (q236 ++ []))).bind fun p237 => some [p237.1]).map fun q239 => p238.1 :: q239).bind fun q240 => cl1 (C "_law_times" (q240 ++ []))).bind fun p241 => (((ix s79.1 x232).bind fun p242 => some [p242.1, p241.1]).bind fun q243 => cl1 (C "_law_plus" (q243 ++ []))).bind fun p244 => (pushO s215 p244.1).bind fun ys245 => k230 ys245) (fun (s246 : List PV) => j213 s246) xs247 s207.2) fun j206 => ((((op2 .Add (.int 25) x205).bind fun p208 => ix s2.1 p208.1).bind fun p209 => (bltV "len" [s79.2.2.2.1]).bind fun p210 => op2 .Mod p209.1 p210.1).bind fun p211 => ix s79.2.2.2.1 p211.1).bind fun p212 => j206 (p212.1, [])) (fun (s257 : Unit) => j148 ()) xs258 ()) fun j138 => (((cl2 (C "_law_top" [s25.2.1, s79.1, s79.2.1, s55.2, (.int 1)])).bind fun p145 => cmp .NotEq (.lst s127.1) p145.1).bind fun b146 => if b146 then some true else (cl2 (C "_law_top" [s25.2.1, s79.1, s79.2.1, s55.2, (.int (-1))])).bind fun p147 => cmp .NotEq (.lst s127.2) p147.1).bind fun t140 => if t140 then sh (.bl false) else (((cl1 (C "_law_value" [s25.2.1, (.lst s127.1)])).bind fun p142 => cmp .NotEq p142.1 s104.2).bind fun b143 => if b143 then some true else (cl1 (C "_law_value" [s25.2.1, (.lst s127.2)])).bind fun p144 => cmp .NotEq p144.1 s104.1).bind fun t141 => if t141 then sh (.bl false) else j138 ()) fun j126 => ((cl1 (C "extremes" [s25.2.1, s79.1, s79.2.1, s55.2])).bind fun p137 => cmp .NotEq p137.1 (.tup [s104.1, s104.2])).bind fun t128 => if t128 then sh (.bl false) else (ownO (cl2 (C "corner_at" [s25.2.1, s79.1, s79.2.1, s55.2, (.bl true)]))).bind fun ys129 => (ownO (cl2 (C "corner_at" [s25.2.1, s79.1, s79.2.1, s55.2, (.bl false)]))).bind fun ys130 => ((((insV "list" (.lst ys129)).bind fun p133 => truth p133.1).map fun b132 => !b132).bind fun b134 => if b134 then some true else ((insV "list" (.lst ys130)).bind fun p136 => truth p136.1).map fun b135 => !b135).bind fun t131 => if t131 then sh (.bl false) else j126 (ys129, ys130)) fun j103 => (seqOf s100.1).bind fun xs125 => forC (fun x116 (s105 : PV × PV) k114 k115 => jn (fun (s118 : PV) => ((cl1 (C "_law_before" [s105.2, x116])).bind fun p122 => truth p122.1).bind fun t121 => if t121 then k114 (s118, x116) else k114 (s118, s105.2)) fun j117 => ((cl1 (C "_law_before" [x116, s105.1])).bind fun p120 => truth p120.1).bind fun t119 => if t119 then j117 x116 else j117 s105.1) (fun (s124 : PV × PV) => j103 (s124.1, s124.2)) xs125 (s100.2.1, s100.2.2)) fun j99 => (ix (.lst s79.2.2.2.2) (.int 0)).bind fun p101 => (ix (.lst s79.2.2.2.2) (.int 0)).bind fun p102 => j99 ((.lst s79.2.2.2.2), p101.1, p102.1)) fun j78 => (((bltV "list" [(.lst s25.2.2)]).bind fun p81 => ((bltV "list" [(.lst s55.1)]).bind fun p80 => some [p80.1]).map fun q82 => p81.1 :: q82).bind fun q83 => sh (.tup q83)).bind fun p84 => ((((((cl1 (C "swing" [s25.2.1, (.lst s55.1)])).bind fun p93 => some [p93.1]).bind fun q94 => cl1 (C "_law_is_fraction" (q94 ++ []))).bind fun p95 => truth p95.1).map fun b92 => !b92).bind fun b96 => if b96 then some true else (cl1 (C "swing" [s25.2.1, (.lst s55.1)])).bind fun p97 => (cl1 (C "_law_swing" [s25.2.1, (.lst s55.1)])).bind fun p98 => cmp .NotEq p97.1 p98.1).bind fun t85 => if t85 then sh (.bl false) else (cl1 (C "_law_corners" [(.lst s25.2.2), (.lst s55.1), s55.2])).bind fun p86 => (ownO ((seqOf p86.1).bind fun xs89 => (compM (fun x87 => (cl1 (C "_law_value" [s25.2.1, x87])).bind fun p90 => some (some p90.1)) xs89).bind fun ys88 => some (.lst ys88, true))).bind fun ys91 => j78 ((.lst s25.2.2), (.lst s55.1), p84.1, p86.1, ys91)) fun j54 => (ownO ((rng1 s2.2.1).bind fun xs58 => (compM (fun x56 => (((((op2 .Add (.int 19) x56).bind fun p59 => ix s2.1 p59.1).bind fun p60 => op2 .Mod p60.1 (.int 5)).bind fun p65 => (((((op2 .Add (.int 15) x56).bind fun p61 => ix s2.1 p61.1).bind fun p62 => op2 .Mod p62.1 (.int 3)).bind fun p63 => op2 .Add (.int 1) p63.1).bind fun p64 => some [p64.1]).map fun q66 => p65.1 :: q66).bind fun q67 => cl1 (C "_law_fraction" (q67 ++ []))).bind fun p68 => some (some p68.1)) xs58).bind fun ys57 => some (.lst ys57, true))).bind fun ys69 => ((((ix s2.1 (.int 23)).bind fun p70 => op2 .Mod p70.1 (.int 7)).bind fun p74 => ((((ix s2.1 (.int 24)).bind fun p71 => op2 .Mod p71.1 (.int 4)).bind fun p72 => op2 .Add (.int 1) p72.1).bind fun p73 => some [p73.1]).map fun q75 => p74.1 :: q75).bind fun q76 => cl1 (C "_law_fraction" (q76 ++ []))).bind fun p77 => j54 (ys69, p77.1)) fun j24 => (((((((ix s2.1 (.int 9)).bind fun p26 => op2 .Mod p26.1 (.int 61)).bind fun p27 => op2 .Sub p27.1 (.int 30)).bind fun p31 => ((((ix s2.1 (.int 10)).bind fun p28 => op2 .Mod p28.1 (.int 5)).bind fun p29 => op2 .Add (.int 1) p29.1).bind fun p30 => some [p30.1]).map fun q32 => p31.1 :: q32).bind fun q33 => cl1 (C "_law_fraction" (q33 ++ []))).bind fun p35 => ((bltV "tuple" [(.lst s2.2.2)]).bind fun p34 => some [p34.1]).map fun q36 => p35.1 :: q36).bind fun q37 => sh (.tup q37)).bind fun p38 => (ownO ((rng1 s2.2.1).bind fun xs41 => (compM (fun x39 => ((((((op2 .Add (.int 11) x39).bind fun p42 => ix s2.1 p42.1).bind fun p43 => op2 .Mod p43.1 (.int 41)).bind fun p44 => op2 .Sub p44.1 (.int 20)).bind fun p49 => (((((op2 .Add (.int 15) x39).bind fun p45 => ix s2.1 p45.1).bind fun p46 => op2 .Mod p46.1 (.int 3)).bind fun p47 => op2 .Add (.int 1) p47.1).bind fun p48 => some [p48.1]).map fun q50 => p49.1 :: q50).bind fun q51 => cl1 (C "_law_fraction" (q51 ++ []))).bind fun p52 => some (some p52.1)) xs41).bind fun ys40 => some (.lst ys40, true))).bind fun ys53 => j24 ((.lst s2.2.2), p38.1, ys53)) fun j1 => (ownO (((cl1 (C "_law_cell" [v_script, (.int 0)])).bind fun p3 => some [p3.1, (.int 30), (.int 1000)]).bind fun q4 => cl2 (C "_law_row" (q4 ++ [])))).bind fun ys5 => (((ix (.lst ys5) (.int 0)).bind fun p6 => op2 .Mod p6.1 (.int 4)).bind fun p7 => op2 .Add (.int 1) p7.1).bind fun p8 => (ownO ((rng1 p8.1).bind fun xs11 => (compM (fun x9 => ((((((op2 .Add (.int 1) x9).bind fun p12 => ix (.lst ys5) p12.1).bind fun p13 => op2 .Mod p13.1 (.int 13)).bind fun p14 => op2 .Sub p14.1 (.int 6)).bind fun p19 => (((((op2 .Add (.int 5) x9).bind fun p15 => ix (.lst ys5) p15.1).bind fun p16 => op2 .Mod p16.1 (.int 4)).bind fun p17 => op2 .Add (.int 1) p17.1).bind fun p18 => some [p18.1]).map fun q20 => p19.1 :: q20).bind fun q21 => cl1 (C "_law_fraction" (q21 ++ []))).bind fun p22 => some (some p22.1)) xs11).bind fun ys10 => some (.lst ys10, true))).bind fun ys23 => j1 ((.lst ys5), p8.1, ys23)
end K60

/-! ## the text by places -/
namespace K60
open PySem L2 Pv
def top (i : Nat) : Stmt := PySem.Challenge.pw_trueshop_k60_boxes_of_values.main.body.getD i (.Pass ⟨0, 0, 0, 0⟩)
def d_common : FD := ⟨["a", "b"], ["a", "b"], defScope (top 4), defBody (top 4), [(2, [])], [], false⟩
def d_fraction : FD := ⟨["number", "divisor", "shared"], ["number", "divisor"], defScope (top 5), defBody (top 5), [(2, [])], [], false⟩
def d_plus : FD := ⟨["a", "b"], ["a", "b"], defScope (top 6), defBody (top 6), [(2, [])], [], false⟩
def d_minus : FD := ⟨["a", "b"], ["a", "b"], defScope (top 7), defBody (top 7), [(2, [])], [], false⟩
def d_times : FD := ⟨["a", "b"], ["a", "b"], defScope (top 8), defBody (top 8), [(2, [])], [], false⟩
def d_less : FD := ⟨["a", "b"], ["a", "b"], defScope (top 9), defBody (top 9), [(2, [])], [], false⟩
def d_sign : FD := ⟨["a"], ["a"], defScope (top 10), defBody (top 10), [(1, [])], [], false⟩
def d_value : FD := ⟨["a", "setting", "found", "k"], ["a", "setting"], defScope (top 12), defBody (top 12), [(2, [])], [], false⟩
def d_bare : FD := ⟨["a"], ["a"], defScope (top 14), defBody (top 14), [(1, [])], [], false⟩
def d_swing : FD := ⟨["worth", "weights", "found", "k"], ["worth", "weights"], defScope (top 15), defBody (top 15), [(2, [])], [], false⟩
def d_extremes : FD := ⟨["worth", "setting", "weights", "size", "here", "most"], ["worth", "setting", "weights", "size"], defScope (top 16), defBody (top 16), [(4, [])], [], false⟩
def d_corner_at : FD := ⟨["worth", "setting", "weights", "size", "greatest", "found", "k", "up"], ["worth", "setting", "weights", "size", "greatest"], defScope (top 17), defBody (top 17), [(4, [.bl true])], [(4, ["greatest"])], true⟩
def d_in_box : FD := ⟨["setting", "weights", "size", "other", "k", "apart"], ["setting", "weights", "size", "other"], defScope (top 18), defBody (top 18), [(4, [])], [], false⟩
def d__law_is_integer : FD := ⟨["actual"], ["actual"], defScope (top 20), defBody (top 20), [(1, [])], [], false⟩
def d__law_is_truth : FD := ⟨["actual", "due"], ["actual", "due"], defScope (top 21), defBody (top 21), [(2, [])], [], false⟩
def d__law_cell : FD := ⟨["script", "k"], ["script", "k"], defScope (top 22), defBody (top 22), [(2, [])], [], false⟩
def d__law_row : FD := ⟨["cell", "size", "base", "row", "number", "k", "mixed"], ["cell", "size", "base"], defScope (top 23), defBody (top 23), [(3, [])], [], true⟩
def d__law_fraction : FD := ⟨["number", "divisor", "a", "b", "k"], ["number", "divisor"], defScope (top 24), defBody (top 24), [(2, [])], [], false⟩
def d__law_plus : FD := ⟨["a", "b"], ["a", "b"], defScope (top 25), defBody (top 25), [(2, [])], [], false⟩
def d__law_minus : FD := ⟨["a", "b"], ["a", "b"], defScope (top 26), defBody (top 26), [(2, [])], [], false⟩
def d__law_times : FD := ⟨["a", "b"], ["a", "b"], defScope (top 27), defBody (top 27), [(2, [])], [], false⟩
def d__law_bare : FD := ⟨["a"], ["a"], defScope (top 28), defBody (top 28), [(1, [])], [], false⟩
def d__law_before : FD := ⟨["a", "b"], ["a", "b"], defScope (top 29), defBody (top 29), [(2, [])], [], false⟩
def d__law_is_fraction : FD := ⟨["actual"], ["actual"], defScope (top 30), defBody (top 30), [(1, [])], [], false⟩
def d__law_value : FD := ⟨["worth", "setting", "found", "k"], ["worth", "setting"], defScope (top 31), defBody (top 31), [(2, [])], [], false⟩
def d__law_swing : FD := ⟨["worth", "weights", "found", "k"], ["worth", "weights"], defScope (top 32), defBody (top 32), [(2, [])], [], false⟩
def d__law_corners : FD := ⟨["setting", "weights", "size", "found", "k", "step", "more", "row"], ["setting", "weights", "size"], defScope (top 33), defBody (top 33), [(3, [])], [], false⟩
def d__law_top : FD := ⟨["worth", "setting", "weights", "size", "up", "found", "k", "step", "slope"], ["worth", "setting", "weights", "size", "up"], defScope (top 34), defBody (top 34), [(5, [])], [], true⟩
def d__law_inside : FD := ⟨["setting", "weights", "size", "other", "k", "apart"], ["setting", "weights", "size", "other"], defScope (top 35), defBody (top 35), [(4, [])], [], false⟩
def d_law : FD := ⟨["script", "draw", "many", "slopes", "worth", "setting", "weights", "size", "kept", "corners", "worths", "least", "greatest", "one", "top", "bottom", "k", "corner", "other", "at", "step"], ["script"], defScope (top 36), defBody (top 36), [(1, [])], [], false⟩
def prog : Pg := ⟨[("common", d_common), ("fraction", d_fraction), ("plus", d_plus), ("minus", d_minus), ("times", d_times), ("less", d_less), ("sign", d_sign), ("value", d_value), ("bare", d_bare), ("swing", d_swing), ("extremes", d_extremes), ("corner_at", d_corner_at), ("in_box", d_in_box), ("_law_is_integer", d__law_is_integer), ("_law_is_truth", d__law_is_truth), ("_law_cell", d__law_cell), ("_law_row", d__law_row), ("_law_fraction", d__law_fraction), ("_law_plus", d__law_plus), ("_law_minus", d__law_minus), ("_law_times", d__law_times), ("_law_bare", d__law_bare), ("_law_before", d__law_before), ("_law_is_fraction", d__law_is_fraction), ("_law_value", d__law_value), ("_law_swing", d__law_swing), ("_law_corners", d__law_corners), ("_law_top", d__law_top), ("_law_inside", d__law_inside), ("law", d_law)], [], [((37, 4), [(3, false)]), ((45, 4), [(3, false)]), ((54, 4), [(6, false), (7, false)]), ((59, 4), [(4, false), (5, false)]), ((79, 4), [(5, false), (6, false)]), ((91, 4), [(4, false)]), ((116, 4), [(3, false)]), ((121, 4), [(3, false)]), ((126, 4), [(4, false), (5, false), (6, false), (7, false), (3, true)]), ((129, 8), [(7, false)]), ((136, 4), [(6, false), (7, false), (8, false)]), ((147, 4), [(4, false), (5, false)]), ((169, 4), [(13, false)]), ((184, 4), [(16, false), (17, false), (18, false), (19, false), (20, false)]), ((187, 8), [(19, false), (20, false)]), ((192, 4), [(16, false), (18, false)])], [(132, 8), (156, 4), (158, 4), (162, 4), (167, 4)], 40, 40, 100000⟩
theorem sc_common : FnScope d_common.N d_common.ps d_common.sc := ⟨rfl, rfl, rfl, by decide +kernel, rfl, by decide +kernel, by decide +kernel⟩
theorem sc_fraction : FnScope d_fraction.N d_fraction.ps d_fraction.sc := ⟨rfl, rfl, rfl, by decide +kernel, rfl, by decide +kernel, by decide +kernel⟩
theorem sc_plus : FnScope d_plus.N d_plus.ps d_plus.sc := ⟨rfl, rfl, rfl, by decide +kernel, rfl, by decide +kernel, by decide +kernel⟩
theorem sc_minus : FnScope d_minus.N d_minus.ps d_minus.sc := ⟨rfl, rfl, rfl, by decide +kernel, rfl, by decide +kernel, by decide +kernel⟩
theorem sc_times : FnScope d_times.N d_times.ps d_times.sc := ⟨rfl, rfl, rfl, by decide +kernel, rfl, by decide +kernel, by decide +kernel⟩
theorem sc_less : FnScope d_less.N d_less.ps d_less.sc := ⟨rfl, rfl, rfl, by decide +kernel, rfl, by decide +kernel, by decide +kernel⟩
theorem sc_sign : FnScope d_sign.N d_sign.ps d_sign.sc := ⟨rfl, rfl, rfl, by decide +kernel, rfl, by decide +kernel, by decide +kernel⟩
theorem sc_value : FnScope d_value.N d_value.ps d_value.sc := ⟨rfl, rfl, rfl, by decide +kernel, rfl, by decide +kernel, by decide +kernel⟩
theorem sc_bare : FnScope d_bare.N d_bare.ps d_bare.sc := ⟨rfl, rfl, rfl, by decide +kernel, rfl, by decide +kernel, by decide +kernel⟩
theorem sc_swing : FnScope d_swing.N d_swing.ps d_swing.sc := ⟨rfl, rfl, rfl, by decide +kernel, rfl, by decide +kernel, by decide +kernel⟩
theorem sc_extremes : FnScope d_extremes.N d_extremes.ps d_extremes.sc := ⟨rfl, rfl, rfl, by decide +kernel, rfl, by decide +kernel, by decide +kernel⟩
theorem sc_corner_at : FnScope d_corner_at.N d_corner_at.ps d_corner_at.sc := ⟨rfl, rfl, rfl, by decide +kernel, rfl, by decide +kernel, by decide +kernel⟩
theorem sc_in_box : FnScope d_in_box.N d_in_box.ps d_in_box.sc := ⟨rfl, rfl, rfl, by decide +kernel, rfl, by decide +kernel, by decide +kernel⟩
theorem sc__law_is_integer : FnScope d__law_is_integer.N d__law_is_integer.ps d__law_is_integer.sc := ⟨rfl, rfl, rfl, by decide +kernel, rfl, by decide +kernel, by decide +kernel⟩
theorem sc__law_is_truth : FnScope d__law_is_truth.N d__law_is_truth.ps d__law_is_truth.sc := ⟨rfl, rfl, rfl, by decide +kernel, rfl, by decide +kernel, by decide +kernel⟩
theorem sc__law_cell : FnScope d__law_cell.N d__law_cell.ps d__law_cell.sc := ⟨rfl, rfl, rfl, by decide +kernel, rfl, by decide +kernel, by decide +kernel⟩
theorem sc__law_row : FnScope d__law_row.N d__law_row.ps d__law_row.sc := ⟨rfl, rfl, rfl, by decide +kernel, rfl, by decide +kernel, by decide +kernel⟩
theorem sc__law_fraction : FnScope d__law_fraction.N d__law_fraction.ps d__law_fraction.sc := ⟨rfl, rfl, rfl, by decide +kernel, rfl, by decide +kernel, by decide +kernel⟩
theorem sc__law_plus : FnScope d__law_plus.N d__law_plus.ps d__law_plus.sc := ⟨rfl, rfl, rfl, by decide +kernel, rfl, by decide +kernel, by decide +kernel⟩
theorem sc__law_minus : FnScope d__law_minus.N d__law_minus.ps d__law_minus.sc := ⟨rfl, rfl, rfl, by decide +kernel, rfl, by decide +kernel, by decide +kernel⟩
theorem sc__law_times : FnScope d__law_times.N d__law_times.ps d__law_times.sc := ⟨rfl, rfl, rfl, by decide +kernel, rfl, by decide +kernel, by decide +kernel⟩
theorem sc__law_bare : FnScope d__law_bare.N d__law_bare.ps d__law_bare.sc := ⟨rfl, rfl, rfl, by decide +kernel, rfl, by decide +kernel, by decide +kernel⟩
theorem sc__law_before : FnScope d__law_before.N d__law_before.ps d__law_before.sc := ⟨rfl, rfl, rfl, by decide +kernel, rfl, by decide +kernel, by decide +kernel⟩
theorem sc__law_is_fraction : FnScope d__law_is_fraction.N d__law_is_fraction.ps d__law_is_fraction.sc := ⟨rfl, rfl, rfl, by decide +kernel, rfl, by decide +kernel, by decide +kernel⟩
theorem sc__law_value : FnScope d__law_value.N d__law_value.ps d__law_value.sc := ⟨rfl, rfl, rfl, by decide +kernel, rfl, by decide +kernel, by decide +kernel⟩
theorem sc__law_swing : FnScope d__law_swing.N d__law_swing.ps d__law_swing.sc := ⟨rfl, rfl, rfl, by decide +kernel, rfl, by decide +kernel, by decide +kernel⟩
theorem sc__law_corners : FnScope d__law_corners.N d__law_corners.ps d__law_corners.sc := ⟨rfl, rfl, rfl, by decide +kernel, rfl, by decide +kernel, by decide +kernel⟩
theorem sc__law_top : FnScope d__law_top.N d__law_top.ps d__law_top.sc := ⟨rfl, rfl, rfl, by decide +kernel, rfl, by decide +kernel, by decide +kernel⟩
theorem sc__law_inside : FnScope d__law_inside.N d__law_inside.ps d__law_inside.sc := ⟨rfl, rfl, rfl, by decide +kernel, rfl, by decide +kernel, by decide +kernel⟩
theorem sc_law : FnScope d_law.N d_law.ps d_law.sc := ⟨rfl, rfl, rfl, by decide +kernel, rfl, by decide +kernel, by decide +kernel⟩
end K60

namespace K60
open PySem L2 Pv
theorem b_common (C : Str → List PV → Out) (v_a v_b : PV) : runK prog (tbOf prog C) d_common [v_a, v_b] = mm_common C v_a v_b := by
  refine (runK_pos rfl).trans ?_
  unfold mm_common
  refine cut 2 (fun (s2 : PV × PV) => [.val s2.1, .val s2.2]) ?_ ?_
  · intro k14
    exact rfl
  · intro s2
    refine cut 1 (fun (s6 : PV × PV) => [.val s6.1, .val s6.2]) ?_ ?_
    · intro k13
      refine whP (fun (s7 : PV × PV) => [.val s7.1, .val s7.2]) (s2.1, s2.2) ?_ ?_ ?_ ?_
      · exact rfl
      · intro s
        exact rfl
      · intro s
        exact rfl
      · intro s7 k9 k10
        exact rfl
    · intro s6
      exact rfl
theorem b_fraction (C : Str → List PV → Out) (v_number v_divisor : PV) : runK prog (tbOf prog C) d_fraction [v_number, v_divisor] = mm_fraction C v_number v_divisor := by
  refine (runK_pos rfl).trans ?_
  unfold mm_fraction
  refine cut 2 (fun (s2 : PV) => [.val v_number, .val v_divisor, .val s2]) ?_ ?_
  · intro k15
    exact rfl
  · intro s2
    refine cut 1 (fun (s6 : PV) => [.val v_number, .val v_divisor, .val s6]) ?_ ?_
    · intro k14
      exact rfl
    · intro s6
      exact rfl
theorem b_plus (C : Str → List PV → Out) (v_a v_b : PV) : runK prog (tbOf prog C) d_plus [v_a, v_b] = mm_plus C v_a v_b := by
  refine (runK_pos rfl).trans ?_
  unfold mm_plus
  exact rfl
theorem b_minus (C : Str → List PV → Out) (v_a v_b : PV) : runK prog (tbOf prog C) d_minus [v_a, v_b] = mm_minus C v_a v_b := by
  refine (runK_pos rfl).trans ?_
  unfold mm_minus
  exact rfl
theorem b_times (C : Str → List PV → Out) (v_a v_b : PV) : runK prog (tbOf prog C) d_times [v_a, v_b] = mm_times C v_a v_b := by
  refine (runK_pos rfl).trans ?_
  unfold mm_times
  exact rfl
theorem b_less (C : Str → List PV → Out) (v_a v_b : PV) : runK prog (tbOf prog C) d_less [v_a, v_b] = mm_less C v_a v_b := by
  refine (runK_pos rfl).trans ?_
  unfold mm_less
  exact rfl
theorem b_sign (C : Str → List PV → Out) (v_a : PV) : runK prog (tbOf prog C) d_sign [v_a] = mm_sign C v_a := by
  refine (runK_pos rfl).trans ?_
  unfold mm_sign
  exact rfl
theorem b_value (C : Str → List PV → Out) (v_a v_setting : PV) : runK prog (tbOf prog C) d_value [v_a, v_setting] = mm_value C v_a v_setting := by
  refine (runK_pos rfl).trans ?_
  unfold mm_value
  refine cut 1 (fun (s2 : PV) => [.val v_a, .val v_setting, .val s2, .emp]) ?_ ?_
  · intro k35
    exact rfl
  · intro s2
    refine cut 1 (fun (s5 : PV) => [.val v_a, .val v_setting, .val s5, .emp]) ?_ ?_
    · intro k34
      refine forP (fun (s6 : PV) => [.val v_a, .val v_setting, .val s6, .emp]) s2 [.val v_a, .val v_setting, .val s2, .emp] (fun (x19 : PV) (s6 : PV) => [.val v_a, .val v_setting, .val s6, .val x19]) ?_ ?_ ?_ ?_ ?_
      · intro K
        exact rfl
      · exact rfl
      · intro x s K
        exact rfl
      · intro s
        exact rfl
      · intro x19 s6 k17 k18
        exact rfl
    · intro s5
      exact rfl
theorem b_bare (C : Str → List PV → Out) (v_a : PV) : runK prog (tbOf prog C) d_bare [v_a] = mm_bare C v_a := by
  refine (runK_pos rfl).trans ?_
  unfold mm_bare
  exact rfl
theorem b_swing (C : Str → List PV → Out) (v_worth v_weights : PV) : runK prog (tbOf prog C) d_swing [v_worth, v_weights] = mm_swing C v_worth v_weights := by
  refine (runK_pos rfl).trans ?_
  unfold mm_swing
  refine cut 1 (fun (s2 : PV) => [.val v_worth, .val v_weights, .val s2, .emp]) ?_ ?_
  · intro k36
    exact rfl
  · intro s2
    refine cut 1 (fun (s4 : PV) => [.val v_worth, .val v_weights, .val s4, .emp]) ?_ ?_
    · intro k35
      refine forP (fun (s5 : PV) => [.val v_worth, .val v_weights, .val s5, .emp]) s2 [.val v_worth, .val v_weights, .val s2, .emp] (fun (x20 : PV) (s5 : PV) => [.val v_worth, .val v_weights, .val s5, .val x20]) ?_ ?_ ?_ ?_ ?_
      · intro K
        exact rfl
      · exact rfl
      · intro x s K
        exact rfl
      · intro s
        exact rfl
      · intro x20 s5 k18 k19
        exact rfl
    · intro s4
      exact rfl
theorem b_extremes (C : Str → List PV → Out) (v_worth v_setting v_weights v_size : PV) : runK prog (tbOf prog C) d_extremes [v_worth, v_setting, v_weights, v_size] = mm_extremes C v_worth v_setting v_weights v_size := by
  refine (runK_pos rfl).trans ?_
  unfold mm_extremes
  exact rfl
theorem b_corner_at (C : Str → List PV → Out) (v_worth v_setting v_weights v_size v_greatest : PV) : runK prog (tbOf prog C) d_corner_at [v_worth, v_setting, v_weights, v_size, v_greatest] = mm_corner_at C v_worth v_setting v_weights v_size v_greatest := by
  refine (runK_pos rfl).trans ?_
  unfold mm_corner_at
  refine cut 1 (fun (s2 : List PV) => [.val v_worth, .val v_setting, .val v_weights, .val v_size, .val v_greatest, .own s2, .emp, .emp]) ?_ ?_
  · intro k56
    exact rfl
  · intro s2
    refine cut 1 (fun (s4 : List PV) => [.val v_worth, .val v_setting, .val v_weights, .val v_size, .val v_greatest, .own s4, .emp, .emp]) ?_ ?_
    · intro k55
      refine forP (fun (s5 : List PV) => [.val v_worth, .val v_setting, .val v_weights, .val v_size, .val v_greatest, .own s5, .emp, .emp]) s2 [.val v_worth, .val v_setting, .val v_weights, .val v_size, .val v_greatest, .own s2, .emp, .emp] (fun (x30 : PV) (s5 : List PV) => [.val v_worth, .val v_setting, .val v_weights, .val v_size, .val v_greatest, .own s5, .val x30, .emp]) ?_ ?_ ?_ ?_ ?_
      · intro K
        exact rfl
      · exact rfl
      · intro x s K
        exact rfl
      · intro s
        exact rfl
      · intro x30 s5 k28 k29
        exact rfl
    · intro s4
      exact rfl
theorem b_in_box (C : Str → List PV → Out) (v_setting v_weights v_size v_other : PV) : runK prog (tbOf prog C) d_in_box [v_setting, v_weights, v_size, v_other] = mm_in_box C v_setting v_weights v_size v_other := by
  refine (runK_pos rfl).trans ?_
  unfold mm_in_box
  refine cut 1 (fun (s2 : Unit) => [.val v_setting, .val v_weights, .val v_size, .val v_other, .emp, .emp]) ?_ ?_
  · intro k59
    refine forP (fun (s3 : Unit) => [.val v_setting, .val v_weights, .val v_size, .val v_other, .emp, .emp]) () [.val v_setting, .val v_weights, .val v_size, .val v_other, .emp, .emp] (fun (x31 : PV) (s3 : Unit) => [.val v_setting, .val v_weights, .val v_size, .val v_other, .val x31, .emp]) ?_ ?_ ?_ ?_ ?_
    · intro K
      exact rfl
    · exact rfl
    · intro x s K
      exact rfl
    · intro s
      exact rfl
    · intro x31 s3 k29 k30
      refine cut 1 (fun (s33 : PV) => [.val v_setting, .val v_weights, .val v_size, .val v_other, .val x31, .val s33]) ?_ ?_
      · intro k55
        exact rfl
      · intro s33
        exact rfl
  · intro s2
    exact rfl
theorem b__law_is_integer (C : Str → List PV → Out) (v_actual : PV) : runK prog (tbOf prog C) d__law_is_integer [v_actual] = mm__law_is_integer C v_actual := by
  refine (runK_pos rfl).trans ?_
  unfold mm__law_is_integer
  exact rfl
theorem b__law_is_truth (C : Str → List PV → Out) (v_actual v_due : PV) : runK prog (tbOf prog C) d__law_is_truth [v_actual, v_due] = mm__law_is_truth C v_actual v_due := by
  refine (runK_pos rfl).trans ?_
  unfold mm__law_is_truth
  exact rfl
theorem b__law_cell (C : Str → List PV → Out) (v_script v_k : PV) : runK prog (tbOf prog C) d__law_cell [v_script, v_k] = mm__law_cell C v_script v_k := by
  refine (runK_pos rfl).trans ?_
  unfold mm__law_cell
  exact rfl
theorem b__law_row (C : Str → List PV → Out) (v_cell v_size v_base : PV) : runK prog (tbOf prog C) d__law_row [v_cell, v_size, v_base] = mm__law_row C v_cell v_size v_base := by
  refine (runK_pos rfl).trans ?_
  unfold mm__law_row
  refine cut 2 (fun (s2 : List PV × PV) => [.val v_cell, .val v_size, .val v_base, .own s2.1, .val s2.2, .emp, .emp]) ?_ ?_
  · intro k57
    exact rfl
  · intro s2
    refine cut 1 (fun (s4 : List PV × PV) => [.val v_cell, .val v_size, .val v_base, .own s4.1, .val s4.2, .emp, .emp]) ?_ ?_
    · intro k56
      refine forP (fun (s5 : List PV × PV) => [.val v_cell, .val v_size, .val v_base, .own s5.1, .val s5.2, .emp, .emp]) (s2.1, s2.2) [.val v_cell, .val v_size, .val v_base, .own s2.1, .val s2.2, .emp, .emp] (fun (x31 : PV) (s5 : List PV × PV) => [.val v_cell, .val v_size, .val v_base, .own s5.1, .val s5.2, .val x31, .emp]) ?_ ?_ ?_ ?_ ?_
      · intro K
        exact rfl
      · exact rfl
      · intro x s K
        exact rfl
      · intro s
        exact rfl
      · intro x31 s5 k29 k30
        exact rfl
    · intro s4
      exact rfl
theorem b__law_fraction (C : Str → List PV → Out) (v_number v_divisor : PV) : runK prog (tbOf prog C) d__law_fraction [v_number, v_divisor] = mm__law_fraction C v_number v_divisor := by
  refine (runK_pos rfl).trans ?_
  unfold mm__law_fraction
  refine cut 2 (fun (s2 : PV × PV) => [.val v_number, .val v_divisor, .val s2.1, .val s2.2, .emp]) ?_ ?_
  · intro k29
    exact rfl
  · intro s2
    refine cut 1 (fun (s6 : PV × PV) => [.val v_number, .val v_divisor, .val s6.1, .val s6.2, .emp]) ?_ ?_
    · intro k28
      refine forP (fun (s7 : PV × PV) => [.val v_number, .val v_divisor, .val s7.1, .val s7.2, .emp]) (s2.1, s2.2) [.val v_number, .val v_divisor, .val s2.1, .val s2.2, .emp] (fun (x13 : PV) (s7 : PV × PV) => [.val v_number, .val v_divisor, .val s7.1, .val s7.2, .val x13]) ?_ ?_ ?_ ?_ ?_
      · intro K
        exact rfl
      · exact rfl
      · intro x s K
        exact rfl
      · intro s
        exact rfl
      · intro x13 s7 k11 k12
        exact rfl
    · intro s6
      refine cut 1 (fun (s19 : PV) => [.val v_number, .val v_divisor, .val s19, .val s6.2, .emp]) ?_ ?_
      · intro k27
        exact rfl
      · intro s19
        exact rfl
theorem b__law_plus (C : Str → List PV → Out) (v_a v_b : PV) : runK prog (tbOf prog C) d__law_plus [v_a, v_b] = mm__law_plus C v_a v_b := by
  refine (runK_pos rfl).trans ?_
  unfold mm__law_plus
  exact rfl
theorem b__law_minus (C : Str → List PV → Out) (v_a v_b : PV) : runK prog (tbOf prog C) d__law_minus [v_a, v_b] = mm__law_minus C v_a v_b := by
  refine (runK_pos rfl).trans ?_
  unfold mm__law_minus
  exact rfl
theorem b__law_times (C : Str → List PV → Out) (v_a v_b : PV) : runK prog (tbOf prog C) d__law_times [v_a, v_b] = mm__law_times C v_a v_b := by
  refine (runK_pos rfl).trans ?_
  unfold mm__law_times
  exact rfl
theorem b__law_bare (C : Str → List PV → Out) (v_a : PV) : runK prog (tbOf prog C) d__law_bare [v_a] = mm__law_bare C v_a := by
  refine (runK_pos rfl).trans ?_
  unfold mm__law_bare
  exact rfl
theorem b__law_before (C : Str → List PV → Out) (v_a v_b : PV) : runK prog (tbOf prog C) d__law_before [v_a, v_b] = mm__law_before C v_a v_b := by
  refine (runK_pos rfl).trans ?_
  unfold mm__law_before
  exact rfl
theorem b__law_is_fraction (C : Str → List PV → Out) (v_actual : PV) : runK prog (tbOf prog C) d__law_is_fraction [v_actual] = mm__law_is_fraction C v_actual := by
  refine (runK_pos rfl).trans ?_
  unfold mm__law_is_fraction
  exact rfl
theorem b__law_value (C : Str → List PV → Out) (v_worth v_setting : PV) : runK prog (tbOf prog C) d__law_value [v_worth, v_setting] = mm__law_value C v_worth v_setting := by
  refine (runK_pos rfl).trans ?_
  unfold mm__law_value
  refine cut 1 (fun (s2 : PV) => [.val v_worth, .val v_setting, .val s2, .emp]) ?_ ?_
  · intro k33
    exact rfl
  · intro s2
    refine cut 1 (fun (s5 : PV) => [.val v_worth, .val v_setting, .val s5, .emp]) ?_ ?_
    · intro k32
      refine forP (fun (s6 : PV) => [.val v_worth, .val v_setting, .val s6, .emp]) s2 [.val v_worth, .val v_setting, .val s2, .emp] (fun (x19 : PV) (s6 : PV) => [.val v_worth, .val v_setting, .val s6, .val x19]) ?_ ?_ ?_ ?_ ?_
      · intro K
        exact rfl
      · exact rfl
      · intro x s K
        exact rfl
      · intro s
        exact rfl
      · intro x19 s6 k17 k18
        exact rfl
    · intro s5
      exact rfl
theorem b__law_swing (C : Str → List PV → Out) (v_worth v_weights : PV) : runK prog (tbOf prog C) d__law_swing [v_worth, v_weights] = mm__law_swing C v_worth v_weights := by
  refine (runK_pos rfl).trans ?_
  unfold mm__law_swing
  refine cut 1 (fun (s2 : PV) => [.val v_worth, .val v_weights, .val s2, .emp]) ?_ ?_
  · intro k36
    exact rfl
  · intro s2
    refine cut 1 (fun (s4 : PV) => [.val v_worth, .val v_weights, .val s4, .emp]) ?_ ?_
    · intro k35
      refine forP (fun (s5 : PV) => [.val v_worth, .val v_weights, .val s5, .emp]) s2 [.val v_worth, .val v_weights, .val s2, .emp] (fun (x20 : PV) (s5 : PV) => [.val v_worth, .val v_weights, .val s5, .val x20]) ?_ ?_ ?_ ?_ ?_
      · intro K
        exact rfl
      · exact rfl
      · intro x s K
        exact rfl
      · intro s
        exact rfl
      · intro x20 s5 k18 k19
        exact rfl
    · intro s4
      exact rfl
theorem b__law_corners (C : Str → List PV → Out) (v_setting v_weights v_size : PV) : runK prog (tbOf prog C) d__law_corners [v_setting, v_weights, v_size] = mm__law_corners C v_setting v_weights v_size := by
  refine (runK_pos rfl).trans ?_
  unfold mm__law_corners
  refine cut 1 (fun (s2 : List PV) => [.val v_setting, .val v_weights, .val v_size, .own s2, .emp, .emp, .emp, .emp]) ?_ ?_
  · intro k151
    exact rfl
  · intro s2
    refine cut 1 (fun (s4 : PV) => [.val v_setting, .val v_weights, .val v_size, .val s4, .emp, .emp, .emp, .emp]) ?_ ?_
    · intro k150
      refine forP (fun (s52 : PV) => [.val v_setting, .val v_weights, .val v_size, .val s52, .emp, .emp, .emp, .emp]) (.lst s2) [.val v_setting, .val v_weights, .val v_size, .own s2, .emp, .emp, .emp, .emp] (fun (x101 : PV) (s52 : PV) => [.val v_setting, .val v_weights, .val v_size, .val s52, .val x101, .emp, .emp, .emp]) ?_ ?_ ?_ ?_ ?_
      · intro K
        exact rfl
      · exact rfl
      · intro x s K
        exact rfl
      · intro s
        exact rfl
      · intro x101 s52 k99 k100
        refine cut 2 (fun (s103 : PV × List PV) => [.val v_setting, .val v_weights, .val v_size, .val s52, .val x101, .val s103.1, .own s103.2, .emp]) ?_ ?_
        · intro k146
          exact rfl
        · intro s103
          refine cut 1 (fun (s109 : List PV) => [.val v_setting, .val v_weights, .val v_size, .val s52, .val x101, .val s103.1, .own s109, .emp]) ?_ ?_
          · intro k145
            refine forP (fun (s110 : List PV) => [.val v_setting, .val v_weights, .val v_size, .val s52, .val x101, .val s103.1, .own s110, .emp]) s103.2 [.val v_setting, .val v_weights, .val v_size, .val s52, .val x101, .val s103.1, .own s103.2, .emp] (fun (x128 : PV) (s110 : List PV) => [.val v_setting, .val v_weights, .val v_size, .val s52, .val x101, .val s103.1, .own s110, .val x128]) ?_ ?_ ?_ ?_ ?_
            · intro K
              exact rfl
            · exact rfl
            · intro x s K
              exact rfl
            · intro s
              exact rfl
            · intro x128 s110 k126 k127
              exact rfl
          · intro s109
            exact rfl
    · intro s4
      exact rfl
theorem b__law_top (C : Str → List PV → Out) (v_worth v_setting v_weights v_size v_up : PV) : runK prog (tbOf prog C) d__law_top [v_worth, v_setting, v_weights, v_size, v_up] = mm__law_top C v_worth v_setting v_weights v_size v_up := by
  refine (runK_pos rfl).trans ?_
  unfold mm__law_top
  refine cut 1 (fun (s2 : List PV) => [.val v_worth, .val v_setting, .val v_weights, .val v_size, .val v_up, .own s2, .emp, .emp, .emp]) ?_ ?_
  · intro k60
    exact rfl
  · intro s2
    refine cut 1 (fun (s4 : List PV) => [.val v_worth, .val v_setting, .val v_weights, .val v_size, .val v_up, .own s4, .emp, .emp, .emp]) ?_ ?_
    · intro k59
      refine forP (fun (s5 : List PV) => [.val v_worth, .val v_setting, .val v_weights, .val v_size, .val v_up, .own s5, .emp, .emp, .emp]) s2 [.val v_worth, .val v_setting, .val v_weights, .val v_size, .val v_up, .own s2, .emp, .emp, .emp] (fun (x32 : PV) (s5 : List PV) => [.val v_worth, .val v_setting, .val v_weights, .val v_size, .val v_up, .own s5, .val x32, .emp, .emp]) ?_ ?_ ?_ ?_ ?_
      · intro K
        exact rfl
      · exact rfl
      · intro x s K
        exact rfl
      · intro s
        exact rfl
      · intro x32 s5 k30 k31
        refine cut 2 (fun (s34 : PV × PV) => [.val v_worth, .val v_setting, .val v_weights, .val v_size, .val v_up, .own s5, .val x32, .val s34.1, .val s34.2]) ?_ ?_
        · intro k55
          exact rfl
        · intro s34
          exact rfl
    · intro s4
      exact rfl
theorem b__law_inside (C : Str → List PV → Out) (v_setting v_weights v_size v_other : PV) : runK prog (tbOf prog C) d__law_inside [v_setting, v_weights, v_size, v_other] = mm__law_inside C v_setting v_weights v_size v_other := by
  refine (runK_pos rfl).trans ?_
  unfold mm__law_inside
  refine cut 1 (fun (s2 : Unit) => [.val v_setting, .val v_weights, .val v_size, .val v_other, .emp, .emp]) ?_ ?_
  · intro k65
    refine forP (fun (s3 : Unit) => [.val v_setting, .val v_weights, .val v_size, .val v_other, .emp, .emp]) () [.val v_setting, .val v_weights, .val v_size, .val v_other, .emp, .emp] (fun (x34 : PV) (s3 : Unit) => [.val v_setting, .val v_weights, .val v_size, .val v_other, .val x34, .emp]) ?_ ?_ ?_ ?_ ?_
    · intro K
      exact rfl
    · exact rfl
    · intro x s K
      exact rfl
    · intro s
      exact rfl
    · intro x34 s3 k32 k33
      refine cut 2 (fun (s36 : PV) => [.val v_setting, .val v_weights, .val v_size, .val v_other, .val x34, .val s36]) ?_ ?_
      · intro k61
        exact rfl
      · intro s36
        exact rfl
  · intro s2
    exact rfl
theorem b_law (C : Str → List PV → Out) (v_script : PV) : runK prog (tbOf prog C) d_law [v_script] = mm_law C v_script := by
  refine (runK_pos rfl).trans ?_
  unfold mm_law
  refine cut 3 (fun (s2 : PV × PV × List PV) => [.val v_script, .val s2.1, .val s2.2.1, .own s2.2.2, .emp, .emp, .emp, .emp, .emp, .emp, .emp, .emp, .emp, .emp, .emp, .emp, .emp, .emp, .emp, .emp, .emp]) ?_ ?_
  · intro k320
    exact rfl
  · intro s2
    refine cut 2 (fun (s25 : PV × PV × List PV) => [.val v_script, .val s2.1, .val s2.2.1, .val s25.1, .val s25.2.1, .own s25.2.2, .emp, .emp, .emp, .emp, .emp, .emp, .emp, .emp, .emp, .emp, .emp, .emp, .emp, .emp, .emp]) ?_ ?_
    · intro k319
      exact rfl
    · intro s25
      refine cut 2 (fun (s55 : List PV × PV) => [.val v_script, .val s2.1, .val s2.2.1, .val s25.1, .val s25.2.1, .own s25.2.2, .own s55.1, .val s55.2, .emp, .emp, .emp, .emp, .emp, .emp, .emp, .emp, .emp, .emp, .emp, .emp, .emp]) ?_ ?_
      · intro k318
        exact rfl
      · intro s55
        refine cut 4 (fun (s79 : PV × PV × PV × PV × List PV) => [.val v_script, .val s2.1, .val s2.2.1, .val s25.1, .val s25.2.1, .val s79.1, .val s79.2.1, .val s55.2, .val s79.2.2.1, .val s79.2.2.2.1, .own s79.2.2.2.2, .emp, .emp, .emp, .emp, .emp, .emp, .emp, .emp, .emp, .emp]) ?_ ?_
        · intro k317
          exact rfl
        · intro s79
          refine cut 2 (fun (s100 : PV × PV × PV) => [.val v_script, .val s2.1, .val s2.2.1, .val s25.1, .val s25.2.1, .val s79.1, .val s79.2.1, .val s55.2, .val s79.2.2.1, .val s79.2.2.2.1, .val s100.1, .val s100.2.1, .val s100.2.2, .emp, .emp, .emp, .emp, .emp, .emp, .emp, .emp]) ?_ ?_
          · intro k316
            exact rfl
          · intro s100
            refine cut 1 (fun (s104 : PV × PV) => [.val v_script, .val s2.1, .val s2.2.1, .val s25.1, .val s25.2.1, .val s79.1, .val s79.2.1, .val s55.2, .val s79.2.2.1, .val s79.2.2.2.1, .val s100.1, .val s104.1, .val s104.2, .emp, .emp, .emp, .emp, .emp, .emp, .emp, .emp]) ?_ ?_
            · intro k315
              refine forP (fun (s105 : PV × PV) => [.val v_script, .val s2.1, .val s2.2.1, .val s25.1, .val s25.2.1, .val s79.1, .val s79.2.1, .val s55.2, .val s79.2.2.1, .val s79.2.2.2.1, .val s100.1, .val s105.1, .val s105.2, .emp, .emp, .emp, .emp, .emp, .emp, .emp, .emp]) (s100.2.1, s100.2.2) [.val v_script, .val s2.1, .val s2.2.1, .val s25.1, .val s25.2.1, .val s79.1, .val s79.2.1, .val s55.2, .val s79.2.2.1, .val s79.2.2.2.1, .val s100.1, .val s100.2.1, .val s100.2.2, .emp, .emp, .emp, .emp, .emp, .emp, .emp, .emp] (fun (x116 : PV) (s105 : PV × PV) => [.val v_script, .val s2.1, .val s2.2.1, .val s25.1, .val s25.2.1, .val s79.1, .val s79.2.1, .val s55.2, .val s79.2.2.1, .val s79.2.2.2.1, .val s100.1, .val s105.1, .val s105.2, .val x116, .emp, .emp, .emp, .emp, .emp, .emp, .emp]) ?_ ?_ ?_ ?_ ?_
              · intro K
                exact rfl
              · exact rfl
              · intro x s K
                exact rfl
              · intro s
                exact rfl
              · intro x116 s105 k114 k115
                refine cut 1 (fun (s118 : PV) => [.val v_script, .val s2.1, .val s2.2.1, .val s25.1, .val s25.2.1, .val s79.1, .val s79.2.1, .val s55.2, .val s79.2.2.1, .val s79.2.2.2.1, .val s100.1, .val s118, .val s105.2, .val x116, .emp, .emp, .emp, .emp, .emp, .emp, .emp]) ?_ ?_
                · intro k123
                  exact rfl
                · intro s118
                  exact rfl
            · intro s104
              refine cut 4 (fun (s127 : List PV × List PV) => [.val v_script, .val s2.1, .val s2.2.1, .val s25.1, .val s25.2.1, .val s79.1, .val s79.2.1, .val s55.2, .val s79.2.2.1, .val s79.2.2.2.1, .val s100.1, .val s104.1, .val s104.2, .emp, .own s127.1, .own s127.2, .emp, .emp, .emp, .emp, .emp]) ?_ ?_
              · intro k314
                exact rfl
              · intro s127
                refine cut 2 (fun (s139 : Unit) => [.val v_script, .val s2.1, .val s2.2.1, .val s25.1, .val s25.2.1, .val s79.1, .val s79.2.1, .val s55.2, .val s79.2.2.1, .val s79.2.2.2.1, .val s100.1, .val s104.1, .val s104.2, .emp, .own s127.1, .own s127.2, .emp, .emp, .emp, .emp, .emp]) ?_ ?_
                · intro k313
                  exact rfl
                · intro s139
                  refine cut 1 (fun (s149 : Unit) => [.val v_script, .val s2.1, .val s2.2.1, .val s25.1, .val s25.2.1, .val s79.1, .val s79.2.1, .val s55.2, .val s79.2.2.1, .val s79.2.2.2.1, .val s100.1, .val s104.1, .val s104.2, .emp, .own s127.1, .own s127.2, .emp, .emp, .emp, .emp, .emp]) ?_ ?_
                  · intro k312
                    refine forP (fun (s150 : Unit) => [.val v_script, .val s2.1, .val s2.2.1, .val s25.1, .val s25.2.1, .val s79.1, .val s79.2.1, .val s55.2, .val s79.2.2.1, .val s79.2.2.2.1, .val s100.1, .val s104.1, .val s104.2, .emp, .own s127.1, .own s127.2, .emp, .emp, .emp, .emp, .emp]) () [.val v_script, .val s2.1, .val s2.2.1, .val s25.1, .val s25.2.1, .val s79.1, .val s79.2.1, .val s55.2, .val s79.2.2.1, .val s79.2.2.2.1, .val s100.1, .val s104.1, .val s104.2, .emp, .own s127.1, .own s127.2, .emp, .emp, .emp, .emp, .emp] (fun (x205 : PV) (s150 : Unit) => [.val v_script, .val s2.1, .val s2.2.1, .val s25.1, .val s25.2.1, .val s79.1, .val s79.2.1, .val s55.2, .val s79.2.2.1, .val s79.2.2.2.1, .val s100.1, .val s104.1, .val s104.2, .emp, .own s127.1, .own s127.2, .val x205, .emp, .emp, .emp, .emp]) ?_ ?_ ?_ ?_ ?_
                    · intro K
                      exact rfl
                    · exact rfl
                    · intro x s K
                      exact rfl
                    · intro s
                      exact rfl
                    · intro x205 s150 k203 k204
                      refine cut 2 (fun (s207 : PV × List PV) => [.val v_script, .val s2.1, .val s2.2.1, .val s25.1, .val s25.2.1, .val s79.1, .val s79.2.1, .val s55.2, .val s79.2.2.1, .val s79.2.2.2.1, .val s100.1, .val s104.1, .val s104.2, .emp, .own s127.1, .own s127.2, .val x205, .val s207.1, .own s207.2, .emp, .emp]) ?_ ?_
                      · intro k256
                        exact rfl
                      · intro s207
                        refine cut 1 (fun (s214 : List PV) => [.val v_script, .val s2.1, .val s2.2.1, .val s25.1, .val s25.2.1, .val s79.1, .val s79.2.1, .val s55.2, .val s79.2.2.1, .val s79.2.2.2.1, .val s100.1, .val s104.1, .val s104.2, .emp, .own s127.1, .own s127.2, .val x205, .val s207.1, .own s214, .emp, .emp]) ?_ ?_
                        · intro k255
                          refine forP (fun (s215 : List PV) => [.val v_script, .val s2.1, .val s2.2.1, .val s25.1, .val s25.2.1, .val s79.1, .val s79.2.1, .val s55.2, .val s79.2.2.1, .val s79.2.2.2.1, .val s100.1, .val s104.1, .val s104.2, .emp, .own s127.1, .own s127.2, .val x205, .val s207.1, .own s215, .emp, .emp]) s207.2 [.val v_script, .val s2.1, .val s2.2.1, .val s25.1, .val s25.2.1, .val s79.1, .val s79.2.1, .val s55.2, .val s79.2.2.1, .val s79.2.2.2.1, .val s100.1, .val s104.1, .val s104.2, .emp, .own s127.1, .own s127.2, .val x205, .val s207.1, .own s207.2, .emp, .emp] (fun (x232 : PV) (s215 : List PV) => [.val v_script, .val s2.1, .val s2.2.1, .val s25.1, .val s25.2.1, .val s79.1, .val s79.2.1, .val s55.2, .val s79.2.2.1, .val s79.2.2.2.1, .val s100.1, .val s104.1, .val s104.2, .emp, .own s127.1, .own s127.2, .val x205, .val s207.1, .own s215, .val x232, .emp]) ?_ ?_ ?_ ?_ ?_
                          · intro K
                            exact rfl
                          · exact rfl
                          · intro x s K
                            exact rfl
                          · intro s
                            exact rfl
                          · intro x232 s215 k230 k231
                            exact rfl
                        · intro s214
                          exact rfl
                  · intro s149
                    refine cut 1 (fun (s260 : Unit) => [.val v_script, .val s2.1, .val s2.2.1, .val s25.1, .val s25.2.1, .val s79.1, .val s79.2.1, .val s55.2, .val s79.2.2.1, .val s79.2.2.2.1, .val s100.1, .val s104.1, .val s104.2, .emp, .own s127.1, .own s127.2, .emp, .emp, .emp, .emp, .emp]) ?_ ?_
                    · intro k311
                      refine forP (fun (s261 : Unit) => [.val v_script, .val s2.1, .val s2.2.1, .val s25.1, .val s25.2.1, .val s79.1, .val s79.2.1, .val s55.2, .val s79.2.2.1, .val s79.2.2.2.1, .val s100.1, .val s104.1, .val s104.2, .emp, .own s127.1, .own s127.2, .emp, .emp, .emp, .emp, .emp]) () [.val v_script, .val s2.1, .val s2.2.1, .val s25.1, .val s25.2.1, .val s79.1, .val s79.2.1, .val s55.2, .val s79.2.2.1, .val s79.2.2.2.1, .val s100.1, .val s104.1, .val s104.2, .emp, .own s127.1, .own s127.2, .emp, .emp, .emp, .emp, .emp] (fun (x284 : PV) (s261 : Unit) => [.val v_script, .val s2.1, .val s2.2.1, .val s25.1, .val s25.2.1, .val s79.1, .val s79.2.1, .val s55.2, .val s79.2.2.1, .val s79.2.2.2.1, .val s100.1, .val s104.1, .val s104.2, .emp, .own s127.1, .own s127.2, .val x284, .emp, .emp, .emp, .emp]) ?_ ?_ ?_ ?_ ?_
                      · intro K
                        exact rfl
                      · exact rfl
                      · intro x s K
                        exact rfl
                      · intro s
                        exact rfl
                      · intro x284 s261 k282 k283
                        exact rfl
                    · intro s260
                      exact rfl
theorem r_common (d : Nat) (v_a v_b : PV) : run prog (d + 1) "common" [v_a, v_b] = mm_common (run prog d) v_a v_b := (runK_eq rfl _).trans (b_common _ v_a v_b)
theorem r_fraction (d : Nat) (v_number v_divisor : PV) : run prog (d + 1) "fraction" [v_number, v_divisor] = mm_fraction (run prog d) v_number v_divisor := (runK_eq rfl _).trans (b_fraction _ v_number v_divisor)
theorem r_plus (d : Nat) (v_a v_b : PV) : run prog (d + 1) "plus" [v_a, v_b] = mm_plus (run prog d) v_a v_b := (runK_eq rfl _).trans (b_plus _ v_a v_b)
theorem r_minus (d : Nat) (v_a v_b : PV) : run prog (d + 1) "minus" [v_a, v_b] = mm_minus (run prog d) v_a v_b := (runK_eq rfl _).trans (b_minus _ v_a v_b)
theorem r_times (d : Nat) (v_a v_b : PV) : run prog (d + 1) "times" [v_a, v_b] = mm_times (run prog d) v_a v_b := (runK_eq rfl _).trans (b_times _ v_a v_b)
theorem r_less (d : Nat) (v_a v_b : PV) : run prog (d + 1) "less" [v_a, v_b] = mm_less (run prog d) v_a v_b := (runK_eq rfl _).trans (b_less _ v_a v_b)
theorem r_sign (d : Nat) (v_a : PV) : run prog (d + 1) "sign" [v_a] = mm_sign (run prog d) v_a := (runK_eq rfl _).trans (b_sign _ v_a)
theorem r_value (d : Nat) (v_a v_setting : PV) : run prog (d + 1) "value" [v_a, v_setting] = mm_value (run prog d) v_a v_setting := (runK_eq rfl _).trans (b_value _ v_a v_setting)
theorem r_bare (d : Nat) (v_a : PV) : run prog (d + 1) "bare" [v_a] = mm_bare (run prog d) v_a := (runK_eq rfl _).trans (b_bare _ v_a)
theorem r_swing (d : Nat) (v_worth v_weights : PV) : run prog (d + 1) "swing" [v_worth, v_weights] = mm_swing (run prog d) v_worth v_weights := (runK_eq rfl _).trans (b_swing _ v_worth v_weights)
theorem r_extremes (d : Nat) (v_worth v_setting v_weights v_size : PV) : run prog (d + 1) "extremes" [v_worth, v_setting, v_weights, v_size] = mm_extremes (run prog d) v_worth v_setting v_weights v_size := (runK_eq rfl _).trans (b_extremes _ v_worth v_setting v_weights v_size)
theorem r_corner_at (d : Nat) (v_worth v_setting v_weights v_size v_greatest : PV) : run prog (d + 1) "corner_at" [v_worth, v_setting, v_weights, v_size, v_greatest] = mm_corner_at (run prog d) v_worth v_setting v_weights v_size v_greatest := (runK_eq rfl _).trans (b_corner_at _ v_worth v_setting v_weights v_size v_greatest)
theorem r_in_box (d : Nat) (v_setting v_weights v_size v_other : PV) : run prog (d + 1) "in_box" [v_setting, v_weights, v_size, v_other] = mm_in_box (run prog d) v_setting v_weights v_size v_other := (runK_eq rfl _).trans (b_in_box _ v_setting v_weights v_size v_other)
theorem r__law_is_integer (d : Nat) (v_actual : PV) : run prog (d + 1) "_law_is_integer" [v_actual] = mm__law_is_integer (run prog d) v_actual := (runK_eq rfl _).trans (b__law_is_integer _ v_actual)
theorem r__law_is_truth (d : Nat) (v_actual v_due : PV) : run prog (d + 1) "_law_is_truth" [v_actual, v_due] = mm__law_is_truth (run prog d) v_actual v_due := (runK_eq rfl _).trans (b__law_is_truth _ v_actual v_due)
theorem r__law_cell (d : Nat) (v_script v_k : PV) : run prog (d + 1) "_law_cell" [v_script, v_k] = mm__law_cell (run prog d) v_script v_k := (runK_eq rfl _).trans (b__law_cell _ v_script v_k)
theorem r__law_row (d : Nat) (v_cell v_size v_base : PV) : run prog (d + 1) "_law_row" [v_cell, v_size, v_base] = mm__law_row (run prog d) v_cell v_size v_base := (runK_eq rfl _).trans (b__law_row _ v_cell v_size v_base)
theorem r__law_fraction (d : Nat) (v_number v_divisor : PV) : run prog (d + 1) "_law_fraction" [v_number, v_divisor] = mm__law_fraction (run prog d) v_number v_divisor := (runK_eq rfl _).trans (b__law_fraction _ v_number v_divisor)
theorem r__law_plus (d : Nat) (v_a v_b : PV) : run prog (d + 1) "_law_plus" [v_a, v_b] = mm__law_plus (run prog d) v_a v_b := (runK_eq rfl _).trans (b__law_plus _ v_a v_b)
theorem r__law_minus (d : Nat) (v_a v_b : PV) : run prog (d + 1) "_law_minus" [v_a, v_b] = mm__law_minus (run prog d) v_a v_b := (runK_eq rfl _).trans (b__law_minus _ v_a v_b)
theorem r__law_times (d : Nat) (v_a v_b : PV) : run prog (d + 1) "_law_times" [v_a, v_b] = mm__law_times (run prog d) v_a v_b := (runK_eq rfl _).trans (b__law_times _ v_a v_b)
theorem r__law_bare (d : Nat) (v_a : PV) : run prog (d + 1) "_law_bare" [v_a] = mm__law_bare (run prog d) v_a := (runK_eq rfl _).trans (b__law_bare _ v_a)
theorem r__law_before (d : Nat) (v_a v_b : PV) : run prog (d + 1) "_law_before" [v_a, v_b] = mm__law_before (run prog d) v_a v_b := (runK_eq rfl _).trans (b__law_before _ v_a v_b)
theorem r__law_is_fraction (d : Nat) (v_actual : PV) : run prog (d + 1) "_law_is_fraction" [v_actual] = mm__law_is_fraction (run prog d) v_actual := (runK_eq rfl _).trans (b__law_is_fraction _ v_actual)
theorem r__law_value (d : Nat) (v_worth v_setting : PV) : run prog (d + 1) "_law_value" [v_worth, v_setting] = mm__law_value (run prog d) v_worth v_setting := (runK_eq rfl _).trans (b__law_value _ v_worth v_setting)
theorem r__law_swing (d : Nat) (v_worth v_weights : PV) : run prog (d + 1) "_law_swing" [v_worth, v_weights] = mm__law_swing (run prog d) v_worth v_weights := (runK_eq rfl _).trans (b__law_swing _ v_worth v_weights)
theorem r__law_corners (d : Nat) (v_setting v_weights v_size : PV) : run prog (d + 1) "_law_corners" [v_setting, v_weights, v_size] = mm__law_corners (run prog d) v_setting v_weights v_size := (runK_eq rfl _).trans (b__law_corners _ v_setting v_weights v_size)
theorem r__law_top (d : Nat) (v_worth v_setting v_weights v_size v_up : PV) : run prog (d + 1) "_law_top" [v_worth, v_setting, v_weights, v_size, v_up] = mm__law_top (run prog d) v_worth v_setting v_weights v_size v_up := (runK_eq rfl _).trans (b__law_top _ v_worth v_setting v_weights v_size v_up)
theorem r__law_inside (d : Nat) (v_setting v_weights v_size v_other : PV) : run prog (d + 1) "_law_inside" [v_setting, v_weights, v_size, v_other] = mm__law_inside (run prog d) v_setting v_weights v_size v_other := (runK_eq rfl _).trans (b__law_inside _ v_setting v_weights v_size v_other)
theorem r_law (d : Nat) (v_script : PV) : run prog (d + 1) "law" [v_script] = mm_law (run prog d) v_script := (runK_eq rfl _).trans (b_law _ v_script)
end K60

namespace K60
open PySem L2 Pv
section
variable {K : PySem.W.Frag} {mg : Str → Option Value}
theorem pg_ok {w : World} {h : Heap} (X : K.In h) (G : h.Ns mainGlobals mg) {f0 : Addr} {oc0 kV0 dc0 pm0 cd0 ct0 : Value} {od0 an0 : Option Addr} {sl0 : Array (Option Value)} {f1 : Addr} {oc1 kV1 dc1 pm1 cd1 ct1 : Value} {od1 an1 : Option Addr} {sl1 : Array (Option Value)} {T1 : Addr} {o1 : Obj} {n1 : Nat} {tk1_0 : Tok} {f2 : Addr} {oc2 kV2 dc2 pm2 cd2 ct2 : Value} {od2 an2 : Option Addr} {sl2 : Array (Option Value)} {f3 : Addr} {oc3 kV3 dc3 pm3 cd3 ct3 : Value} {od3 an3 : Option Addr} {sl3 : Array (Option Value)} {f4 : Addr} {oc4 kV4 dc4 pm4 cd4 ct4 : Value} {od4 an4 : Option Addr} {sl4 : Array (Option Value)} {f5 : Addr} {oc5 kV5 dc5 pm5 cd5 ct5 : Value} {od5 an5 : Option Addr} {sl5 : Array (Option Value)} {f6 : Addr} {oc6 kV6 dc6 pm6 cd6 ct6 : Value} {od6 an6 : Option Addr} {sl6 : Array (Option Value)} {f7 : Addr} {oc7 kV7 dc7 pm7 cd7 ct7 : Value} {od7 an7 : Option Addr} {sl7 : Array (Option Value)} {f8 : Addr} {oc8 kV8 dc8 pm8 cd8 ct8 : Value} {od8 an8 : Option Addr} {sl8 : Array (Option Value)} {f9 : Addr} {oc9 kV9 dc9 pm9 cd9 ct9 : Value} {od9 an9 : Option Addr} {sl9 : Array (Option Value)} {f10 : Addr} {oc10 kV10 dc10 pm10 cd10 ct10 : Value} {od10 an10 : Option Addr} {sl10 : Array (Option Value)} {f11 : Addr} {oc11 dc11 pm11 cd11 ct11 : Value} {od11 an11 : Option Addr} {sl11 : Array (Option Value)} {D11 : Addr} {f12 : Addr} {oc12 kV12 dc12 pm12 cd12 ct12 : Value} {od12 an12 : Option Addr} {sl12 : Array (Option Value)} {f13 : Addr} {oc13 kV13 dc13 pm13 cd13 ct13 : Value} {od13 an13 : Option Addr} {sl13 : Array (Option Value)} {f14 : Addr} {oc14 kV14 dc14 pm14 cd14 ct14 : Value} {od14 an14 : Option Addr} {sl14 : Array (Option Value)} {f15 : Addr} {oc15 kV15 dc15 pm15 cd15 ct15 : Value} {od15 an15 : Option Addr} {sl15 : Array (Option Value)} {f16 : Addr} {oc16 kV16 dc16 pm16 cd16 ct16 : Value} {od16 an16 : Option Addr} {sl16 : Array (Option Value)} {f17 : Addr} {oc17 kV17 dc17 pm17 cd17 ct17 : Value} {od17 an17 : Option Addr} {sl17 : Array (Option Value)} {f18 : Addr} {oc18 kV18 dc18 pm18 cd18 ct18 : Value} {od18 an18 : Option Addr} {sl18 : Array (Option Value)} {f19 : Addr} {oc19 kV19 dc19 pm19 cd19 ct19 : Value} {od19 an19 : Option Addr} {sl19 : Array (Option Value)} {f20 : Addr} {oc20 kV20 dc20 pm20 cd20 ct20 : Value} {od20 an20 : Option Addr} {sl20 : Array (Option Value)} {f21 : Addr} {oc21 kV21 dc21 pm21 cd21 ct21 : Value} {od21 an21 : Option Addr} {sl21 : Array (Option Value)} {f22 : Addr} {oc22 kV22 dc22 pm22 cd22 ct22 : Value} {od22 an22 : Option Addr} {sl22 : Array (Option Value)} {f23 : Addr} {oc23 kV23 dc23 pm23 cd23 ct23 : Value} {od23 an23 : Option Addr} {sl23 : Array (Option Value)} {f24 : Addr} {oc24 kV24 dc24 pm24 cd24 ct24 : Value} {od24 an24 : Option Addr} {sl24 : Array (Option Value)} {f25 : Addr} {oc25 kV25 dc25 pm25 cd25 ct25 : Value} {od25 an25 : Option Addr} {sl25 : Array (Option Value)} {f26 : Addr} {oc26 kV26 dc26 pm26 cd26 ct26 : Value} {od26 an26 : Option Addr} {sl26 : Array (Option Value)} {f27 : Addr} {oc27 kV27 dc27 pm27 cd27 ct27 : Value} {od27 an27 : Option Addr} {sl27 : Array (Option Value)} {f28 : Addr} {oc28 kV28 dc28 pm28 cd28 ct28 : Value} {od28 an28 : Option Addr} {sl28 : Array (Option Value)} {f29 : Addr} {oc29 kV29 dc29 pm29 cd29 ct29 : Value} {od29 an29 : Option Addr} {sl29 : Array (Option Value)}
    (a0 : PySem.W.nsIn K mainGlobals "common" = some (some (.ref f0)))
    (l0 : K.lookup f0 = some ⟨oc0, od0, .func (PySem.W.fnOf "common" "common" (defArgs (top 4)) (defBody (top 4)) (defScope (top 4)) .none kV0 dc0 pm0 an0 cd0 ct0), sl0⟩)
    (c0 : PySem.W.codeIn K cd0 "common" = true)
    (k0 : PySem.W.keepIn K (.ref f0) = true)
    (a1 : PySem.W.nsIn K mainGlobals "fraction" = some (some (.ref f1)))
    (l1 : K.lookup f1 = some ⟨oc1, od1, .func (PySem.W.fnOf "fraction" "fraction" (defArgs (top 5)) (defBody (top 5)) (defScope (top 5)) (.ref T1) kV1 dc1 pm1 an1 cd1 ct1), sl1⟩)
    (c1 : PySem.W.codeIn K cd1 "fraction" = true)
    (k1 : PySem.W.keepIn K (.ref f1) = true)
    (t1 : K.lookup T1 = some o1)
    (u1 : o1.data = .seq ([Value.int 1 tk1_0] : List Value).toArray n1)
    (a2 : PySem.W.nsIn K mainGlobals "plus" = some (some (.ref f2)))
    (l2 : K.lookup f2 = some ⟨oc2, od2, .func (PySem.W.fnOf "plus" "plus" (defArgs (top 6)) (defBody (top 6)) (defScope (top 6)) .none kV2 dc2 pm2 an2 cd2 ct2), sl2⟩)
    (c2 : PySem.W.codeIn K cd2 "plus" = true)
    (k2 : PySem.W.keepIn K (.ref f2) = true)
    (a3 : PySem.W.nsIn K mainGlobals "minus" = some (some (.ref f3)))
    (l3 : K.lookup f3 = some ⟨oc3, od3, .func (PySem.W.fnOf "minus" "minus" (defArgs (top 7)) (defBody (top 7)) (defScope (top 7)) .none kV3 dc3 pm3 an3 cd3 ct3), sl3⟩)
    (c3 : PySem.W.codeIn K cd3 "minus" = true)
    (k3 : PySem.W.keepIn K (.ref f3) = true)
    (a4 : PySem.W.nsIn K mainGlobals "times" = some (some (.ref f4)))
    (l4 : K.lookup f4 = some ⟨oc4, od4, .func (PySem.W.fnOf "times" "times" (defArgs (top 8)) (defBody (top 8)) (defScope (top 8)) .none kV4 dc4 pm4 an4 cd4 ct4), sl4⟩)
    (c4 : PySem.W.codeIn K cd4 "times" = true)
    (k4 : PySem.W.keepIn K (.ref f4) = true)
    (a5 : PySem.W.nsIn K mainGlobals "less" = some (some (.ref f5)))
    (l5 : K.lookup f5 = some ⟨oc5, od5, .func (PySem.W.fnOf "less" "less" (defArgs (top 9)) (defBody (top 9)) (defScope (top 9)) .none kV5 dc5 pm5 an5 cd5 ct5), sl5⟩)
    (c5 : PySem.W.codeIn K cd5 "less" = true)
    (k5 : PySem.W.keepIn K (.ref f5) = true)
    (a6 : PySem.W.nsIn K mainGlobals "sign" = some (some (.ref f6)))
    (l6 : K.lookup f6 = some ⟨oc6, od6, .func (PySem.W.fnOf "sign" "sign" (defArgs (top 10)) (defBody (top 10)) (defScope (top 10)) .none kV6 dc6 pm6 an6 cd6 ct6), sl6⟩)
    (c6 : PySem.W.codeIn K cd6 "sign" = true)
    (k6 : PySem.W.keepIn K (.ref f6) = true)
    (a7 : PySem.W.nsIn K mainGlobals "value" = some (some (.ref f7)))
    (l7 : K.lookup f7 = some ⟨oc7, od7, .func (PySem.W.fnOf "value" "value" (defArgs (top 12)) (defBody (top 12)) (defScope (top 12)) .none kV7 dc7 pm7 an7 cd7 ct7), sl7⟩)
    (c7 : PySem.W.codeIn K cd7 "value" = true)
    (k7 : PySem.W.keepIn K (.ref f7) = true)
    (a8 : PySem.W.nsIn K mainGlobals "bare" = some (some (.ref f8)))
    (l8 : K.lookup f8 = some ⟨oc8, od8, .func (PySem.W.fnOf "bare" "bare" (defArgs (top 14)) (defBody (top 14)) (defScope (top 14)) .none kV8 dc8 pm8 an8 cd8 ct8), sl8⟩)
    (c8 : PySem.W.codeIn K cd8 "bare" = true)
    (k8 : PySem.W.keepIn K (.ref f8) = true)
    (a9 : PySem.W.nsIn K mainGlobals "swing" = some (some (.ref f9)))
    (l9 : K.lookup f9 = some ⟨oc9, od9, .func (PySem.W.fnOf "swing" "swing" (defArgs (top 15)) (defBody (top 15)) (defScope (top 15)) .none kV9 dc9 pm9 an9 cd9 ct9), sl9⟩)
    (c9 : PySem.W.codeIn K cd9 "swing" = true)
    (k9 : PySem.W.keepIn K (.ref f9) = true)
    (a10 : PySem.W.nsIn K mainGlobals "extremes" = some (some (.ref f10)))
    (l10 : K.lookup f10 = some ⟨oc10, od10, .func (PySem.W.fnOf "extremes" "extremes" (defArgs (top 16)) (defBody (top 16)) (defScope (top 16)) .none kV10 dc10 pm10 an10 cd10 ct10), sl10⟩)
    (c10 : PySem.W.codeIn K cd10 "extremes" = true)
    (k10 : PySem.W.keepIn K (.ref f10) = true)
    (a11 : PySem.W.nsIn K mainGlobals "corner_at" = some (some (.ref f11)))
    (l11 : K.lookup f11 = some ⟨oc11, od11, .func (PySem.W.fnOf "corner_at" "corner_at" (defArgs (top 17)) (defBody (top 17)) (defScope (top 17)) .none (.ref D11) dc11 pm11 an11 cd11 ct11), sl11⟩)
    (c11 : PySem.W.codeIn K cd11 "corner_at" = true)
    (k11 : PySem.W.keepIn K (.ref f11) = true)
    (g11 : PySem.W.nsIn K D11 "greatest" = some (some (Value.bool true)))
    (a12 : PySem.W.nsIn K mainGlobals "in_box" = some (some (.ref f12)))
    (l12 : K.lookup f12 = some ⟨oc12, od12, .func (PySem.W.fnOf "in_box" "in_box" (defArgs (top 18)) (defBody (top 18)) (defScope (top 18)) .none kV12 dc12 pm12 an12 cd12 ct12), sl12⟩)
    (c12 : PySem.W.codeIn K cd12 "in_box" = true)
    (k12 : PySem.W.keepIn K (.ref f12) = true)
    (a13 : PySem.W.nsIn K mainGlobals "_law_is_integer" = some (some (.ref f13)))
    (l13 : K.lookup f13 = some ⟨oc13, od13, .func (PySem.W.fnOf "_law_is_integer" "_law_is_integer" (defArgs (top 20)) (defBody (top 20)) (defScope (top 20)) .none kV13 dc13 pm13 an13 cd13 ct13), sl13⟩)
    (c13 : PySem.W.codeIn K cd13 "_law_is_integer" = true)
    (k13 : PySem.W.keepIn K (.ref f13) = true)
    (a14 : PySem.W.nsIn K mainGlobals "_law_is_truth" = some (some (.ref f14)))
    (l14 : K.lookup f14 = some ⟨oc14, od14, .func (PySem.W.fnOf "_law_is_truth" "_law_is_truth" (defArgs (top 21)) (defBody (top 21)) (defScope (top 21)) .none kV14 dc14 pm14 an14 cd14 ct14), sl14⟩)
    (c14 : PySem.W.codeIn K cd14 "_law_is_truth" = true)
    (k14 : PySem.W.keepIn K (.ref f14) = true)
    (a15 : PySem.W.nsIn K mainGlobals "_law_cell" = some (some (.ref f15)))
    (l15 : K.lookup f15 = some ⟨oc15, od15, .func (PySem.W.fnOf "_law_cell" "_law_cell" (defArgs (top 22)) (defBody (top 22)) (defScope (top 22)) .none kV15 dc15 pm15 an15 cd15 ct15), sl15⟩)
    (c15 : PySem.W.codeIn K cd15 "_law_cell" = true)
    (k15 : PySem.W.keepIn K (.ref f15) = true)
    (a16 : PySem.W.nsIn K mainGlobals "_law_row" = some (some (.ref f16)))
    (l16 : K.lookup f16 = some ⟨oc16, od16, .func (PySem.W.fnOf "_law_row" "_law_row" (defArgs (top 23)) (defBody (top 23)) (defScope (top 23)) .none kV16 dc16 pm16 an16 cd16 ct16), sl16⟩)
    (c16 : PySem.W.codeIn K cd16 "_law_row" = true)
    (k16 : PySem.W.keepIn K (.ref f16) = true)
    (a17 : PySem.W.nsIn K mainGlobals "_law_fraction" = some (some (.ref f17)))
    (l17 : K.lookup f17 = some ⟨oc17, od17, .func (PySem.W.fnOf "_law_fraction" "_law_fraction" (defArgs (top 24)) (defBody (top 24)) (defScope (top 24)) .none kV17 dc17 pm17 an17 cd17 ct17), sl17⟩)
    (c17 : PySem.W.codeIn K cd17 "_law_fraction" = true)
    (k17 : PySem.W.keepIn K (.ref f17) = true)
    (a18 : PySem.W.nsIn K mainGlobals "_law_plus" = some (some (.ref f18)))
    (l18 : K.lookup f18 = some ⟨oc18, od18, .func (PySem.W.fnOf "_law_plus" "_law_plus" (defArgs (top 25)) (defBody (top 25)) (defScope (top 25)) .none kV18 dc18 pm18 an18 cd18 ct18), sl18⟩)
    (c18 : PySem.W.codeIn K cd18 "_law_plus" = true)
    (k18 : PySem.W.keepIn K (.ref f18) = true)
    (a19 : PySem.W.nsIn K mainGlobals "_law_minus" = some (some (.ref f19)))
    (l19 : K.lookup f19 = some ⟨oc19, od19, .func (PySem.W.fnOf "_law_minus" "_law_minus" (defArgs (top 26)) (defBody (top 26)) (defScope (top 26)) .none kV19 dc19 pm19 an19 cd19 ct19), sl19⟩)
    (c19 : PySem.W.codeIn K cd19 "_law_minus" = true)
    (k19 : PySem.W.keepIn K (.ref f19) = true)
    (a20 : PySem.W.nsIn K mainGlobals "_law_times" = some (some (.ref f20)))
    (l20 : K.lookup f20 = some ⟨oc20, od20, .func (PySem.W.fnOf "_law_times" "_law_times" (defArgs (top 27)) (defBody (top 27)) (defScope (top 27)) .none kV20 dc20 pm20 an20 cd20 ct20), sl20⟩)
    (c20 : PySem.W.codeIn K cd20 "_law_times" = true)
    (k20 : PySem.W.keepIn K (.ref f20) = true)
    (a21 : PySem.W.nsIn K mainGlobals "_law_bare" = some (some (.ref f21)))
    (l21 : K.lookup f21 = some ⟨oc21, od21, .func (PySem.W.fnOf "_law_bare" "_law_bare" (defArgs (top 28)) (defBody (top 28)) (defScope (top 28)) .none kV21 dc21 pm21 an21 cd21 ct21), sl21⟩)
    (c21 : PySem.W.codeIn K cd21 "_law_bare" = true)
    (k21 : PySem.W.keepIn K (.ref f21) = true)
    (a22 : PySem.W.nsIn K mainGlobals "_law_before" = some (some (.ref f22)))
    (l22 : K.lookup f22 = some ⟨oc22, od22, .func (PySem.W.fnOf "_law_before" "_law_before" (defArgs (top 29)) (defBody (top 29)) (defScope (top 29)) .none kV22 dc22 pm22 an22 cd22 ct22), sl22⟩)
    (c22 : PySem.W.codeIn K cd22 "_law_before" = true)
    (k22 : PySem.W.keepIn K (.ref f22) = true)
    (a23 : PySem.W.nsIn K mainGlobals "_law_is_fraction" = some (some (.ref f23)))
    (l23 : K.lookup f23 = some ⟨oc23, od23, .func (PySem.W.fnOf "_law_is_fraction" "_law_is_fraction" (defArgs (top 30)) (defBody (top 30)) (defScope (top 30)) .none kV23 dc23 pm23 an23 cd23 ct23), sl23⟩)
    (c23 : PySem.W.codeIn K cd23 "_law_is_fraction" = true)
    (k23 : PySem.W.keepIn K (.ref f23) = true)
    (a24 : PySem.W.nsIn K mainGlobals "_law_value" = some (some (.ref f24)))
    (l24 : K.lookup f24 = some ⟨oc24, od24, .func (PySem.W.fnOf "_law_value" "_law_value" (defArgs (top 31)) (defBody (top 31)) (defScope (top 31)) .none kV24 dc24 pm24 an24 cd24 ct24), sl24⟩)
    (c24 : PySem.W.codeIn K cd24 "_law_value" = true)
    (k24 : PySem.W.keepIn K (.ref f24) = true)
    (a25 : PySem.W.nsIn K mainGlobals "_law_swing" = some (some (.ref f25)))
    (l25 : K.lookup f25 = some ⟨oc25, od25, .func (PySem.W.fnOf "_law_swing" "_law_swing" (defArgs (top 32)) (defBody (top 32)) (defScope (top 32)) .none kV25 dc25 pm25 an25 cd25 ct25), sl25⟩)
    (c25 : PySem.W.codeIn K cd25 "_law_swing" = true)
    (k25 : PySem.W.keepIn K (.ref f25) = true)
    (a26 : PySem.W.nsIn K mainGlobals "_law_corners" = some (some (.ref f26)))
    (l26 : K.lookup f26 = some ⟨oc26, od26, .func (PySem.W.fnOf "_law_corners" "_law_corners" (defArgs (top 33)) (defBody (top 33)) (defScope (top 33)) .none kV26 dc26 pm26 an26 cd26 ct26), sl26⟩)
    (c26 : PySem.W.codeIn K cd26 "_law_corners" = true)
    (k26 : PySem.W.keepIn K (.ref f26) = true)
    (a27 : PySem.W.nsIn K mainGlobals "_law_top" = some (some (.ref f27)))
    (l27 : K.lookup f27 = some ⟨oc27, od27, .func (PySem.W.fnOf "_law_top" "_law_top" (defArgs (top 34)) (defBody (top 34)) (defScope (top 34)) .none kV27 dc27 pm27 an27 cd27 ct27), sl27⟩)
    (c27 : PySem.W.codeIn K cd27 "_law_top" = true)
    (k27 : PySem.W.keepIn K (.ref f27) = true)
    (a28 : PySem.W.nsIn K mainGlobals "_law_inside" = some (some (.ref f28)))
    (l28 : K.lookup f28 = some ⟨oc28, od28, .func (PySem.W.fnOf "_law_inside" "_law_inside" (defArgs (top 35)) (defBody (top 35)) (defScope (top 35)) .none kV28 dc28 pm28 an28 cd28 ct28), sl28⟩)
    (c28 : PySem.W.codeIn K cd28 "_law_inside" = true)
    (k28 : PySem.W.keepIn K (.ref f28) = true)
    (a29 : PySem.W.nsIn K mainGlobals "law" = some (some (.ref f29)))
    (l29 : K.lookup f29 = some ⟨oc29, od29, .func (PySem.W.fnOf "law" "law" (defArgs (top 36)) (defBody (top 36)) (defScope (top 36)) .none kV29 dc29 pm29 an29 cd29 ct29), sl29⟩)
    (c29 : PySem.W.codeIn K cd29 "law" = true)
    (k29 : PySem.W.keepIn K (.ref f29) = true)
    (b_abs : PySem.W.nsIn K mainGlobals "abs" = some none)
    (b_bool : PySem.W.nsIn K mainGlobals "bool" = some none)
    (b_int : PySem.W.nsIn K mainGlobals "int" = some none)
    (b_isinstance : PySem.W.nsIn K mainGlobals "isinstance" = some none)
    (b_len : PySem.W.nsIn K mainGlobals "len" = some none)
    (b_list : PySem.W.nsIn K mainGlobals "list" = some none)
    (b_range : PySem.W.nsIn K mainGlobals "range" = some none)
    (b_str : PySem.W.nsIn K mainGlobals "str" = some none)
    (b_tuple : PySem.W.nsIn K mainGlobals "tuple" = some none) :
    ∃ fd, DefOk K mg "law" d_law f29 fd ∧ PgOk K mg prog ∧ (∀ (s : Shared) (v : Value), BindsTo s fd ⟨[v], []⟩ [("script", v)]) := by
  have D0 : DefOk K mg "common" d_common f0 _ := ⟨PySem.W.mg_of X G a0, k0, ⟨_, _, _, _, _, _, _, _, _, _, _, _, _, rfl, l0, c0⟩, sc_common, 
    fun q hq => (by
      simp only [d_common, List.mem_cons, List.not_mem_nil, or_false] at hq
      subst hq
      (exact ⟨[], [], .all fun us hl => match us, hl with | [_, _], _ => rfl, .nil, fun F => .nil, rfl⟩)), 
    fun q hq => (by cases hq)⟩
  have F1 : FunD K "fraction" "fraction" (defArgs (top 5)) (defBody (top 5)) (defScope (top 5)) [V.int 1] [] f1 _ := ⟨⟨_, _, _, _, _, _, _, _, _, _, rfl, l1, c1, .inr ⟨by simp, T1, o1, [Value.int 1 tk1_0], n1, rfl, t1, u1, .cons ⟨_, rfl⟩ (.nil)⟩, .inl rfl⟩, k1⟩
  have D1 : DefOk K mg "fraction" d_fraction f1 _ := ⟨PySem.W.mg_of X G a1, k1, ⟨_, _, _, _, _, _, _, _, _, _, _, _, _, rfl, l1, c1⟩, sc_fraction, 
    fun q hq => (by
      simp only [d_fraction, List.mem_cons, List.not_mem_nil, or_false] at hq
      subst hq
      (obtain ⟨ds, hv, hb⟩ := F1.binds1 (ps := d_fraction.ps) 2 1 (by simp) rfl (fun T kV doc pm an cdv ct us its h1 h2 => match us, its, h1, h2 with | [_, _], [_], _, _ => ⟨_, rfl, rfl⟩); exact ⟨_, ds, hb, hv, fun F => .nil, rfl⟩)), 
    fun q hq => (by cases hq)⟩
  have D2 : DefOk K mg "plus" d_plus f2 _ := ⟨PySem.W.mg_of X G a2, k2, ⟨_, _, _, _, _, _, _, _, _, _, _, _, _, rfl, l2, c2⟩, sc_plus, 
    fun q hq => (by
      simp only [d_plus, List.mem_cons, List.not_mem_nil, or_false] at hq
      subst hq
      (exact ⟨[], [], .all fun us hl => match us, hl with | [_, _], _ => rfl, .nil, fun F => .nil, rfl⟩)), 
    fun q hq => (by cases hq)⟩
  have D3 : DefOk K mg "minus" d_minus f3 _ := ⟨PySem.W.mg_of X G a3, k3, ⟨_, _, _, _, _, _, _, _, _, _, _, _, _, rfl, l3, c3⟩, sc_minus, 
    fun q hq => (by
      simp only [d_minus, List.mem_cons, List.not_mem_nil, or_false] at hq
      subst hq
      (exact ⟨[], [], .all fun us hl => match us, hl with | [_, _], _ => rfl, .nil, fun F => .nil, rfl⟩)), 
    fun q hq => (by cases hq)⟩
  have D4 : DefOk K mg "times" d_times f4 _ := ⟨PySem.W.mg_of X G a4, k4, ⟨_, _, _, _, _, _, _, _, _, _, _, _, _, rfl, l4, c4⟩, sc_times, 
    fun q hq => (by
      simp only [d_times, List.mem_cons, List.not_mem_nil, or_false] at hq
      subst hq
      (exact ⟨[], [], .all fun us hl => match us, hl with | [_, _], _ => rfl, .nil, fun F => .nil, rfl⟩)), 
    fun q hq => (by cases hq)⟩
  have D5 : DefOk K mg "less" d_less f5 _ := ⟨PySem.W.mg_of X G a5, k5, ⟨_, _, _, _, _, _, _, _, _, _, _, _, _, rfl, l5, c5⟩, sc_less, 
    fun q hq => (by
      simp only [d_less, List.mem_cons, List.not_mem_nil, or_false] at hq
      subst hq
      (exact ⟨[], [], .all fun us hl => match us, hl with | [_, _], _ => rfl, .nil, fun F => .nil, rfl⟩)), 
    fun q hq => (by cases hq)⟩
  have D6 : DefOk K mg "sign" d_sign f6 _ := ⟨PySem.W.mg_of X G a6, k6, ⟨_, _, _, _, _, _, _, _, _, _, _, _, _, rfl, l6, c6⟩, sc_sign, 
    fun q hq => (by
      simp only [d_sign, List.mem_cons, List.not_mem_nil, or_false] at hq
      subst hq
      (exact ⟨[], [], .all fun us hl => match us, hl with | [_], _ => rfl, .nil, fun F => .nil, rfl⟩)), 
    fun q hq => (by cases hq)⟩
  have D7 : DefOk K mg "value" d_value f7 _ := ⟨PySem.W.mg_of X G a7, k7, ⟨_, _, _, _, _, _, _, _, _, _, _, _, _, rfl, l7, c7⟩, sc_value, 
    fun q hq => (by
      simp only [d_value, List.mem_cons, List.not_mem_nil, or_false] at hq
      subst hq
      (exact ⟨[], [], .all fun us hl => match us, hl with | [_, _], _ => rfl, .nil, fun F => .nil, rfl⟩)), 
    fun q hq => (by cases hq)⟩
  have D8 : DefOk K mg "bare" d_bare f8 _ := ⟨PySem.W.mg_of X G a8, k8, ⟨_, _, _, _, _, _, _, _, _, _, _, _, _, rfl, l8, c8⟩, sc_bare, 
    fun q hq => (by
      simp only [d_bare, List.mem_cons, List.not_mem_nil, or_false] at hq
      subst hq
      (exact ⟨[], [], .all fun us hl => match us, hl with | [_], _ => rfl, .nil, fun F => .nil, rfl⟩)), 
    fun q hq => (by cases hq)⟩
  have D9 : DefOk K mg "swing" d_swing f9 _ := ⟨PySem.W.mg_of X G a9, k9, ⟨_, _, _, _, _, _, _, _, _, _, _, _, _, rfl, l9, c9⟩, sc_swing, 
    fun q hq => (by
      simp only [d_swing, List.mem_cons, List.not_mem_nil, or_false] at hq
      subst hq
      (exact ⟨[], [], .all fun us hl => match us, hl with | [_, _], _ => rfl, .nil, fun F => .nil, rfl⟩)), 
    fun q hq => (by cases hq)⟩
  have D10 : DefOk K mg "extremes" d_extremes f10 _ := ⟨PySem.W.mg_of X G a10, k10, ⟨_, _, _, _, _, _, _, _, _, _, _, _, _, rfl, l10, c10⟩, sc_extremes, 
    fun q hq => (by
      simp only [d_extremes, List.mem_cons, List.not_mem_nil, or_false] at hq
      subst hq
      (exact ⟨[], [], .all fun us hl => match us, hl with | [_, _, _, _], _ => rfl, .nil, fun F => .nil, rfl⟩)), 
    fun q hq => (by cases hq)⟩
  have F11 : FunD K "corner_at" "corner_at" (defArgs (top 17)) (defBody (top 17)) (defScope (top 17)) [] [("greatest", V.bl true)] f11 _ := ⟨⟨_, _, _, _, _, _, _, _, _, _, rfl, l11, c11, .inl ⟨rfl, rfl⟩, .inr ⟨D11, rfl, fun q hq => by
    simp only [List.mem_cons, List.not_mem_nil, or_false] at hq
    subst hq
    exact ⟨_, g11, rfl⟩⟩⟩, k11⟩
  have D11 : DefOk K mg "corner_at" d_corner_at f11 _ := ⟨PySem.W.mg_of X G a11, k11, ⟨_, _, _, _, _, _, _, _, _, _, _, _, _, rfl, l11, c11⟩, sc_corner_at, 
    fun q hq => (by
      simp only [d_corner_at, List.mem_cons, List.not_mem_nil, or_false] at hq
      subst hq
      (obtain ⟨ds, hv, hb⟩ := F11.binds0 (ps := d_corner_at.ps) 4 (by simp) rfl (fun D doc pm an cdv ct us ks h1 h2 => match us, ks, h1, h2 with | [_, _, _, _], [_], _, _ => ⟨_, _, _, _, _, _, rfl, rfl, rfl⟩); exact ⟨_, ds, hb, hv, fun F => .cons (.bl true) (.nil), rfl⟩)), 
    fun q hq => (by
      simp only [d_corner_at, List.mem_cons, List.not_mem_nil, or_false] at hq
      subst hq
      exact ⟨fun us ws => us ++ ws, fun us ws => us ++ ws, ⟨fun s us ws _ h1 h2 => match us, ws, h1, h2 with | [_, _, _, _], [_], _, _ => .of_eq rfl, fun r1 r2 => r1.append r2⟩, fun _ _ => rfl, rfl⟩)⟩
  have D12 : DefOk K mg "in_box" d_in_box f12 _ := ⟨PySem.W.mg_of X G a12, k12, ⟨_, _, _, _, _, _, _, _, _, _, _, _, _, rfl, l12, c12⟩, sc_in_box, 
    fun q hq => (by
      simp only [d_in_box, List.mem_cons, List.not_mem_nil, or_false] at hq
      subst hq
      (exact ⟨[], [], .all fun us hl => match us, hl with | [_, _, _, _], _ => rfl, .nil, fun F => .nil, rfl⟩)), 
    fun q hq => (by cases hq)⟩
  have D13 : DefOk K mg "_law_is_integer" d__law_is_integer f13 _ := ⟨PySem.W.mg_of X G a13, k13, ⟨_, _, _, _, _, _, _, _, _, _, _, _, _, rfl, l13, c13⟩, sc__law_is_integer, 
    fun q hq => (by
      simp only [d__law_is_integer, List.mem_cons, List.not_mem_nil, or_false] at hq
      subst hq
      (exact ⟨[], [], .all fun us hl => match us, hl with | [_], _ => rfl, .nil, fun F => .nil, rfl⟩)), 
    fun q hq => (by cases hq)⟩
  have D14 : DefOk K mg "_law_is_truth" d__law_is_truth f14 _ := ⟨PySem.W.mg_of X G a14, k14, ⟨_, _, _, _, _, _, _, _, _, _, _, _, _, rfl, l14, c14⟩, sc__law_is_truth, 
    fun q hq => (by
      simp only [d__law_is_truth, List.mem_cons, List.not_mem_nil, or_false] at hq
      subst hq
      (exact ⟨[], [], .all fun us hl => match us, hl with | [_, _], _ => rfl, .nil, fun F => .nil, rfl⟩)), 
    fun q hq => (by cases hq)⟩
  have D15 : DefOk K mg "_law_cell" d__law_cell f15 _ := ⟨PySem.W.mg_of X G a15, k15, ⟨_, _, _, _, _, _, _, _, _, _, _, _, _, rfl, l15, c15⟩, sc__law_cell, 
    fun q hq => (by
      simp only [d__law_cell, List.mem_cons, List.not_mem_nil, or_false] at hq
      subst hq
      (exact ⟨[], [], .all fun us hl => match us, hl with | [_, _], _ => rfl, .nil, fun F => .nil, rfl⟩)), 
    fun q hq => (by cases hq)⟩
  have D16 : DefOk K mg "_law_row" d__law_row f16 _ := ⟨PySem.W.mg_of X G a16, k16, ⟨_, _, _, _, _, _, _, _, _, _, _, _, _, rfl, l16, c16⟩, sc__law_row, 
    fun q hq => (by
      simp only [d__law_row, List.mem_cons, List.not_mem_nil, or_false] at hq
      subst hq
      (exact ⟨[], [], .all fun us hl => match us, hl with | [_, _, _], _ => rfl, .nil, fun F => .nil, rfl⟩)), 
    fun q hq => (by cases hq)⟩
  have D17 : DefOk K mg "_law_fraction" d__law_fraction f17 _ := ⟨PySem.W.mg_of X G a17, k17, ⟨_, _, _, _, _, _, _, _, _, _, _, _, _, rfl, l17, c17⟩, sc__law_fraction, 
    fun q hq => (by
      simp only [d__law_fraction, List.mem_cons, List.not_mem_nil, or_false] at hq
      subst hq
      (exact ⟨[], [], .all fun us hl => match us, hl with | [_, _], _ => rfl, .nil, fun F => .nil, rfl⟩)), 
    fun q hq => (by cases hq)⟩
  have D18 : DefOk K mg "_law_plus" d__law_plus f18 _ := ⟨PySem.W.mg_of X G a18, k18, ⟨_, _, _, _, _, _, _, _, _, _, _, _, _, rfl, l18, c18⟩, sc__law_plus, 
    fun q hq => (by
      simp only [d__law_plus, List.mem_cons, List.not_mem_nil, or_false] at hq
      subst hq
      (exact ⟨[], [], .all fun us hl => match us, hl with | [_, _], _ => rfl, .nil, fun F => .nil, rfl⟩)), 
    fun q hq => (by cases hq)⟩
  have D19 : DefOk K mg "_law_minus" d__law_minus f19 _ := ⟨PySem.W.mg_of X G a19, k19, ⟨_, _, _, _, _, _, _, _, _, _, _, _, _, rfl, l19, c19⟩, sc__law_minus, 
    fun q hq => (by
      simp only [d__law_minus, List.mem_cons, List.not_mem_nil, or_false] at hq
      subst hq
      (exact ⟨[], [], .all fun us hl => match us, hl with | [_, _], _ => rfl, .nil, fun F => .nil, rfl⟩)), 
    fun q hq => (by cases hq)⟩
  have D20 : DefOk K mg "_law_times" d__law_times f20 _ := ⟨PySem.W.mg_of X G a20, k20, ⟨_, _, _, _, _, _, _, _, _, _, _, _, _, rfl, l20, c20⟩, sc__law_times, 
    fun q hq => (by
      simp only [d__law_times, List.mem_cons, List.not_mem_nil, or_false] at hq
      subst hq
      (exact ⟨[], [], .all fun us hl => match us, hl with | [_, _], _ => rfl, .nil, fun F => .nil, rfl⟩)), 
    fun q hq => (by cases hq)⟩
  have D21 : DefOk K mg "_law_bare" d__law_bare f21 _ := ⟨PySem.W.mg_of X G a21, k21, ⟨_, _, _, _, _, _, _, _, _, _, _, _, _, rfl, l21, c21⟩, sc__law_bare, 
    fun q hq => (by
      simp only [d__law_bare, List.mem_cons, List.not_mem_nil, or_false] at hq
      subst hq
      (exact ⟨[], [], .all fun us hl => match us, hl with | [_], _ => rfl, .nil, fun F => .nil, rfl⟩)), 
    fun q hq => (by cases hq)⟩
  have D22 : DefOk K mg "_law_before" d__law_before f22 _ := ⟨PySem.W.mg_of X G a22, k22, ⟨_, _, _, _, _, _, _, _, _, _, _, _, _, rfl, l22, c22⟩, sc__law_before, 
    fun q hq => (by
      simp only [d__law_before, List.mem_cons, List.not_mem_nil, or_false] at hq
      subst hq
      (exact ⟨[], [], .all fun us hl => match us, hl with | [_, _], _ => rfl, .nil, fun F => .nil, rfl⟩)), 
    fun q hq => (by cases hq)⟩
  have D23 : DefOk K mg "_law_is_fraction" d__law_is_fraction f23 _ := ⟨PySem.W.mg_of X G a23, k23, ⟨_, _, _, _, _, _, _, _, _, _, _, _, _, rfl, l23, c23⟩, sc__law_is_fraction, 
    fun q hq => (by
      simp only [d__law_is_fraction, List.mem_cons, List.not_mem_nil, or_false] at hq
      subst hq
      (exact ⟨[], [], .all fun us hl => match us, hl with | [_], _ => rfl, .nil, fun F => .nil, rfl⟩)), 
    fun q hq => (by cases hq)⟩
  have D24 : DefOk K mg "_law_value" d__law_value f24 _ := ⟨PySem.W.mg_of X G a24, k24, ⟨_, _, _, _, _, _, _, _, _, _, _, _, _, rfl, l24, c24⟩, sc__law_value, 
    fun q hq => (by
      simp only [d__law_value, List.mem_cons, List.not_mem_nil, or_false] at hq
      subst hq
      (exact ⟨[], [], .all fun us hl => match us, hl with | [_, _], _ => rfl, .nil, fun F => .nil, rfl⟩)), 
    fun q hq => (by cases hq)⟩
  have D25 : DefOk K mg "_law_swing" d__law_swing f25 _ := ⟨PySem.W.mg_of X G a25, k25, ⟨_, _, _, _, _, _, _, _, _, _, _, _, _, rfl, l25, c25⟩, sc__law_swing, 
    fun q hq => (by
      simp only [d__law_swing, List.mem_cons, List.not_mem_nil, or_false] at hq
      subst hq
      (exact ⟨[], [], .all fun us hl => match us, hl with | [_, _], _ => rfl, .nil, fun F => .nil, rfl⟩)), 
    fun q hq => (by cases hq)⟩
  have D26 : DefOk K mg "_law_corners" d__law_corners f26 _ := ⟨PySem.W.mg_of X G a26, k26, ⟨_, _, _, _, _, _, _, _, _, _, _, _, _, rfl, l26, c26⟩, sc__law_corners, 
    fun q hq => (by
      simp only [d__law_corners, List.mem_cons, List.not_mem_nil, or_false] at hq
      subst hq
      (exact ⟨[], [], .all fun us hl => match us, hl with | [_, _, _], _ => rfl, .nil, fun F => .nil, rfl⟩)), 
    fun q hq => (by cases hq)⟩
  have D27 : DefOk K mg "_law_top" d__law_top f27 _ := ⟨PySem.W.mg_of X G a27, k27, ⟨_, _, _, _, _, _, _, _, _, _, _, _, _, rfl, l27, c27⟩, sc__law_top, 
    fun q hq => (by
      simp only [d__law_top, List.mem_cons, List.not_mem_nil, or_false] at hq
      subst hq
      (exact ⟨[], [], .all fun us hl => match us, hl with | [_, _, _, _, _], _ => rfl, .nil, fun F => .nil, rfl⟩)), 
    fun q hq => (by cases hq)⟩
  have D28 : DefOk K mg "_law_inside" d__law_inside f28 _ := ⟨PySem.W.mg_of X G a28, k28, ⟨_, _, _, _, _, _, _, _, _, _, _, _, _, rfl, l28, c28⟩, sc__law_inside, 
    fun q hq => (by
      simp only [d__law_inside, List.mem_cons, List.not_mem_nil, or_false] at hq
      subst hq
      (exact ⟨[], [], .all fun us hl => match us, hl with | [_, _, _, _], _ => rfl, .nil, fun F => .nil, rfl⟩)), 
    fun q hq => (by cases hq)⟩
  have D29 : DefOk K mg "law" d_law f29 _ := ⟨PySem.W.mg_of X G a29, k29, ⟨_, _, _, _, _, _, _, _, _, _, _, _, _, rfl, l29, c29⟩, sc_law, 
    fun q hq => (by
      simp only [d_law, List.mem_cons, List.not_mem_nil, or_false] at hq
      subst hq
      (exact ⟨[], [], .all fun us hl => match us, hl with | [_], _ => rfl, .nil, fun F => .nil, rfl⟩)), 
    fun q hq => (by cases hq)⟩
  refine ⟨_, D29, ⟨.cons D0 (.cons D1 (.cons D2 (.cons D3 (.cons D4 (.cons D5 (.cons D6 (.cons D7 (.cons D8 (.cons D9 (.cons D10 (.cons D11 (.cons D12 (.cons D13 (.cons D14 (.cons D15 (.cons D16 (.cons D17 (.cons D18 (.cons D19 (.cons D20 (.cons D21 (.cons D22 (.cons D23 (.cons D24 (.cons D25 (.cons D26 (.cons D27 (.cons D28 (.cons D29 (.nil)))))))))))))))))))))))))))))), fun q hq => (by cases hq), fun x hx => ?_, fun q hq => ?_⟩, fun s v => .of_eq rfl⟩
  · simp only [bltNames, List.mem_cons, List.not_mem_nil, or_false] at hx
    rcases hx with rfl | rfl | rfl | rfl | rfl | rfl | rfl | rfl
    all_goals first | exact PySem.W.mg_none_of X G b_abs | exact PySem.W.mg_none_of X G b_bool | exact PySem.W.mg_none_of X G b_int | exact PySem.W.mg_none_of X G b_isinstance | exact PySem.W.mg_none_of X G b_len | exact PySem.W.mg_none_of X G b_list | exact PySem.W.mg_none_of X G b_range | exact PySem.W.mg_none_of X G b_str | exact PySem.W.mg_none_of X G b_tuple
  · simp only [tyNames, List.mem_cons, List.not_mem_nil, or_false] at hq
    rcases hq with rfl | rfl | rfl | rfl | rfl
    all_goals first | exact PySem.W.mg_none_of X G b_abs | exact PySem.W.mg_none_of X G b_bool | exact PySem.W.mg_none_of X G b_int | exact PySem.W.mg_none_of X G b_isinstance | exact PySem.W.mg_none_of X G b_len | exact PySem.W.mg_none_of X G b_list | exact PySem.W.mg_none_of X G b_range | exact PySem.W.mg_none_of X G b_str | exact PySem.W.mg_none_of X G b_tuple
end
theorem walk (hlaw : ∀ ns : List Int, ns.length ≤ 63 → run prog 20 "law" [.lst (ns.map .int)] = some (.bl true, false)) {l : PySem.W.OpenLaw} {q : Program} {loose : List Str} {XP : (Str → Option Value) → Heap → Prop} {YP : World → Heap → Prop} {r : DefRec} {K : Params → PySem.W.Frag} (hn : l.most = some 63) (hdf : r.params.defaults = [])
    (hY : ∀ (w : World) (h : Heap), YP w h → (K w.params).In h)
    (F : ∀ (w : World) (mg : Str → Option Value) (fa : Addr) (h : Heap), (K w.params).In h → h.Ns mainGlobals mg → mg r.name = some (.ref fa) → ∃ fd, DefOk (K w.params) mg "law" d_law fa fd ∧ PgOk (K w.params) mg prog ∧ (∀ (s : Shared) (v : Value), BindsTo s fd ⟨[v], []⟩ [("script", v)])) :
    PySem.W.WalkO q loose XP YP l.row.toRowW r [] (fun f vs => PySem.call f vs) :=
  L2.walk_of (n := 63) (k := 20) (x := "script") (CX := fun _ => CX0) (sp := fun w => spOf (K w.params) 1 (run prog 20 "law")) hn (by decide) hdf ⟨rfl, by decide, by decide⟩ hY (fun w mg fa h KX G hm => by
    obtain ⟨fd, D, O, B⟩ := F w mg fa h KX G hm
    exact ⟨fd, B, fun base hK hG => law_end O hK hG rfl D rfl⟩) (fun w H a ns hl _ hS => law_sp (hlaw ns hl) hS) fun _ _ _ _ _ z => z
theorem fin {K : PySem.W.Frag} {mg : Str → Option Value} {fa f : Addr} (hmg : mg "law" = some (.ref fa)) (h : ∃ fd, DefOk K mg "law" d_law f fd ∧ PgOk K mg prog ∧ (∀ (s : Shared) (v : Value), BindsTo s fd ⟨[v], []⟩ [("script", v)])) : ∃ fd, DefOk K mg "law" d_law fa fd ∧ PgOk K mg prog ∧ (∀ (s : Shared) (v : Value), BindsTo s fd ⟨[v], []⟩ [("script", v)]) := by
  obtain ⟨fd, D, O, B⟩ := h
  have e := hmg.symm.trans D.mg
  cases e
  exact ⟨fd, D, O, B⟩
end K60

namespace K60
open PySem L2 Pv

def sm (n : Nat) (f : Nat → Rat) : Rat := match n with
  | 0 => 0
  | n + 1 => sm n f + f n
theorem bz_zero : bz 0 = 1 := by decide +kernel
theorem bz_sm {b : Nat} {f : Nat → Rat} : ∀ n, (∀ k < n, bz (f k) ≤ b) → bz (sm n f) ≤ n * (b + 1) + 1
  | 0, _ => by
    show bz 0 ≤ _
    rw [bz_zero]; omega
  | n + 1, h => by
    have h1 := bz_sm n fun k hk => h k (by omega)
    have h2 := h n (by omega)
    have h3 := bz_add (sm n f) (f n)
    show bz (sm n f + f n) ≤ _
    rw [Nat.add_mul]
    omega
theorem sm_congr {f g : Nat → Rat} : ∀ n, (∀ k < n, f k = g k) → sm n f = sm n g
  | 0, _ => rfl
  | n + 1, h => by
    show sm n f + f n = sm n g + g n
    rw [sm_congr n fun k hk => h k (by omega), h n (by omega)]
theorem fr_zero : PV.tup [.int 0, .int 1] = fr 0 := rfl
theorem fr_int (i : Int) : PV.tup [.int i, .int 1] = fr (i : Rat) := rfl
abbrev lf (n : Nat) (t : Nat → Rat) : List PV := rl n fun k => fr (t k)
abbrev wo (n : Nat) (c : Rat) (s : Nat → Rat) : PV := .tup [fr c, .tup (lf n s)]

section
variable {C : Cl} {n : Nat} {c z : Rat} {s t w o : Nat → Rat}
theorem bz_part (hn : n ≤ 4) (hc : bz c ≤ 100) (hs : ∀ k < n, bz (s k) ≤ 100) (ht : ∀ k < n, bz (t k) ≤ 300) {k : Nat} (hk : k < n) : bz (s k * t k) ≤ 400 ∧ bz (c + sm k fun k => s k * t k) ≤ 2000 := by
  have h1 := hs k hk
  have h2 := ht k hk
  have h3 := bz_mul (s k) (t k)
  have h4 := bz_sm (b := 400) (f := fun k => s k * t k) k fun j hj => by
    have := hs j (by omega)
    have := ht j (by omega)
    have := bz_mul (s j) (t j)
    show bz (s j * t j) ≤ 400
    omega
  have h5 := bz_add c (sm k fun k => s k * t k)
  have : k * (400 + 1) ≤ 4 * 401 := Nat.mul_le_mul (by omega) (by omega)
  omega
theorem sm_step : c + sm n (fun k => s k * t k) + s n * t n = c + sm (n + 1) fun k => s k * t k := by
  show _ = c + (sm n (fun k => s k * t k) + s n * t n)
  rw [Rat.add_assoc]
theorem s_value (hp : S_add C "plus") (hm : S_mul C "times") (hn : n ≤ 4) (hc : bz c ≤ 100) (hs : ∀ k < n, bz (s k) ≤ 100) (ht : ∀ k < n, bz (t k) ≤ 300) :
    mm_value C (wo n c s) (.lst (lf n t)) = sh (fr (c + sm n fun k => s k * t k)) := by
  unfold mm_value
  simp only [jn_def, ix_t0, ix_t1, sh_bind, ob_some, len_tup, rl_len, rng1_ok (show n ≤ 1000000 by omega)]
  rw [forC_rng n (fun k => fr (c + sm k fun k => s k * t k)) (by show _ = fr (c + 0); rw [Rat.add_zero])]
  · rfl
  · intro k hk kn kb
    obtain ⟨h1, h2⟩ := bz_part hn hc hs ht hk
    simp only [ix_rlT hk, ix_rlL hk, sh_bind, ob_some, om_some, List.append_nil]
    rw [hm _ _ (by have := hs k hk; have := ht k hk; omega), cl1_sh, sh_bind]
    simp only [ob_some, om_some]
    rw [hp _ _ (by omega), cl1_sh, sh_bind, sm_step]
theorem s_lvalue (hp : S_add C "_law_plus") (hm : S_mul C "_law_times") (hn : n ≤ 4) (hc : bz c ≤ 100) (hs : ∀ k < n, bz (s k) ≤ 100) (ht : ∀ k < n, bz (t k) ≤ 300) :
    mm__law_value C (wo n c s) (.lst (lf n t)) = sh (fr (c + sm n fun k => s k * t k)) := by
  unfold mm__law_value
  simp only [jn_def, ix_t0, ix_t1, sh_bind, ob_some, len_lst, rl_len, rng1_ok (show n ≤ 1000000 by omega)]
  rw [forC_rng n (fun k => fr (c + sm k fun k => s k * t k)) (by show _ = fr (c + 0); rw [Rat.add_zero])]
  · rfl
  · intro k hk kn kb
    obtain ⟨h1, h2⟩ := bz_part hn hc hs ht hk
    simp only [ix_rlT hk, ix_rlL hk, sh_bind, ob_some, om_some, List.append_nil]
    rw [hm _ _ (by have := hs k hk; have := ht k hk; omega), cl1_sh, sh_bind]
    simp only [ob_some, om_some]
    rw [hp _ _ (by omega), cl1_sh, sh_bind, sm_step]
theorem s_swing (hb : ∀ x, C "bare" [fr x] = sh (fr (ab x))) (hp : S_add C "plus") (hm : S_mul C "times") (hn : n ≤ 4) (hs : ∀ k < n, bz (s k) ≤ 100) (hw : ∀ k < n, bz (w k) ≤ 300) :
    mm_swing C (wo n c s) (.lst (lf n w)) = sh (fr (0 + sm n fun k => ab (s k) * w k)) := by
  unfold mm_swing
  simp only [jn_def, ix_t1, sh_bind, ob_some, len_lst, rl_len, rng1_ok (show n ≤ 1000000 by omega)]
  rw [forC_rng n (fun k => fr (0 + sm k fun k => ab (s k) * w k)) (by show _ = fr (0 + 0); rw [Rat.add_zero]; rfl)]
  · rfl
  · intro k hk kn kb
    obtain ⟨h1, h2⟩ := bz_part (s := fun k => ab (s k)) (t := w) (c := 0) hn (by rw [bz_zero]; omega) (fun k hk => by rw [bz_ab]; exact hs k hk) hw hk
    simp only [ix_rlT hk, ix_rlL hk, sh_bind, ob_some, om_some, List.append_nil, hb, cl1_sh]
    rw [hm _ _ (by have := hs k hk; have := hw k hk; rw [bz_ab]; omega), cl1_sh, sh_bind]
    simp only [ob_some, om_some]
    rw [hp _ _ (by omega), cl1_sh, sh_bind, sm_step]
theorem s_lswing (hb : ∀ x, C "_law_bare" [fr x] = sh (fr (ab x))) (hp : S_add C "_law_plus") (hm : S_mul C "_law_times") (hn : n ≤ 4) (hs : ∀ k < n, bz (s k) ≤ 100) (hw : ∀ k < n, bz (w k) ≤ 300) :
    mm__law_swing C (wo n c s) (.lst (lf n w)) = sh (fr (0 + sm n fun k => ab (s k) * w k)) := by
  unfold mm__law_swing
  simp only [jn_def, ix_t1, sh_bind, ob_some, len_lst, rl_len, rng1_ok (show n ≤ 1000000 by omega)]
  rw [forC_rng n (fun k => fr (0 + sm k fun k => ab (s k) * w k)) (by show _ = fr (0 + 0); rw [Rat.add_zero]; rfl)]
  · rfl
  · intro k hk kn kb
    obtain ⟨h1, h2⟩ := bz_part (s := fun k => ab (s k)) (t := w) (c := 0) hn (by rw [bz_zero]; omega) (fun k hk => by rw [bz_ab]; exact hs k hk) hw hk
    simp only [ix_rlT hk, ix_rlL hk, sh_bind, ob_some, om_some, List.append_nil, hb, cl1_sh]
    rw [hm _ _ (by have := hs k hk; have := hw k hk; rw [bz_ab]; omega), cl1_sh, sh_bind]
    simp only [ob_some, om_some]
    rw [hp _ _ (by omega), cl1_sh, sh_bind, sm_step]
/-- the extremes -/
def lov (n : Nat) (c : Rat) (s t w : Nat → Rat) (z : Rat) : Rat := (c + sm n fun k => s k * t k) - z * (0 + sm n fun k => ab (s k) * w k)
def hiv (n : Nat) (c : Rat) (s t w : Nat → Rat) (z : Rat) : Rat := (c + sm n fun k => s k * t k) + z * (0 + sm n fun k => ab (s k) * w k)
theorem s_extremes (hv : C "value" [wo n c s, .lst (lf n t)] = sh (fr (c + sm n fun k => s k * t k))) (hg : C "swing" [wo n c s, .lst (lf n w)] = sh (fr (0 + sm n fun k => ab (s k) * w k)))
    (hp : S_add C "plus") (hi : S_sub C "minus") (hm : S_mul C "times") (hn : n ≤ 4) (hz : bz z ≤ 100) (hc : bz c ≤ 100) (hs : ∀ k < n, bz (s k) ≤ 100) (ht : ∀ k < n, bz (t k) ≤ 100) (hw : ∀ k < n, bz (w k) ≤ 100) :
    mm_extremes C (wo n c s) (.lst (lf n t)) (.lst (lf n w)) (fr z) = sh (.tup [fr (lov n c s t w z), fr (hiv n c s t w z)]) := by
  unfold mm_extremes
  have b1 := bz_sm (b := 200) (f := fun k => s k * t k) n fun k hk => by
    have := hs k hk; have := ht k hk; have := bz_mul (s k) (t k); show bz (s k * t k) ≤ 200; omega
  have b2 := bz_sm (b := 200) (f := fun k => ab (s k) * w k) n fun k hk => by
    have := hs k hk; have := hw k hk; have := bz_mul (ab (s k)) (w k); rw [bz_ab] at this; show bz (ab (s k) * w k) ≤ 200; omega
  have b3 := bz_add c (sm n fun k => s k * t k)
  have b4 := bz_add 0 (sm n fun k => ab (s k) * w k)
  rw [bz_zero] at b4
  have : n * (200 + 1) ≤ 4 * 201 := Nat.mul_le_mul (by omega) (by omega)
  have b5 := bz_mul z (0 + sm n fun k => ab (s k) * w k)
  simp only [hv, hg, cl1_sh, sh_bind, ob_some, om_some, List.append_nil]
  rw [hm _ _ (by omega), cl1_sh, sh_bind, hi _ _ (by omega), cl1_sh, sh_bind, hp _ _ (by omega), cl1_sh, sh_bind]
  rfl
/-- a corner of the box -/
def cor (b : Bool) (s t w : Nat → Rat) (z : Rat) (k : Nat) : Rat := t k + ((if b then sgn (s k) else -sgn (s k) : Int) : Rat) * (z * w k)
theorem bz_sgn (x : Rat) : bz ((sgn x : Int) : Rat) ≤ 1 ∧ bz ((-sgn x : Int) : Rat) ≤ 1 := by
  unfold sgn
  split
  · decide +kernel
  · split <;> decide +kernel
theorem s_corner (hg : ∀ x, C "sign" [fr x] = sh (.int (sgn x))) (hp : S_add C "plus") (hm : S_mul C "times") (b : Bool) (hn : n ≤ 4) (hz : bz z ≤ 100) (hs : ∀ k < n, bz (s k) ≤ 100) (ht : ∀ k < n, bz (t k) ≤ 100) (hw : ∀ k < n, bz (w k) ≤ 100) :
    mm_corner_at C (wo n c s) (.lst (lf n t)) (.lst (lf n w)) (fr z) (.bl b) = some (.lst (lf n (cor b s t w z)), true) := by
  unfold mm_corner_at
  simp only [jn_def, ix_t1, sh_bind, ob_some, len_lst, rl_len, rng1_ok (show n ≤ 1000000 by omega)]
  rw [forC_rng n (fun k => lf k (cor b s t w z)) (by simp)]
  intro k hk kn kb
  have h1 := bz_mul z (w k)
  have h2 := hw k hk
  have h3 := ht k hk
  obtain ⟨h4, h5⟩ := bz_sgn (s k)
  simp only [truth_bl, ix_rlT hk, ix_rlL hk, sh_bind, ob_some, om_some, List.append_nil, hg, cl1_sh]
  have e : (if b = true then sh (.int (sgn (s k))) else neg1 (.int (sgn (s k)))) = sh (.int (if b then sgn (s k) else -sgn (s k))) := by cases b <;> rfl
  rw [e, sh_bind, hm _ _ (by omega), cl1_sh, sh_bind]
  simp only [ob_some, om_some, fr_int]
  have h6 : bz ((if b then sgn (s k) else -sgn (s k) : Int) : Rat) ≤ 1 := by
    cases b
    · exact h5
    · exact h4
  have h7 := bz_mul ((if b then sgn (s k) else -sgn (s k) : Int) : Rat) (z * w k)
  rw [hm _ _ (by omega), cl1_sh, sh_bind]
  simp only [ob_some, om_some]
  rw [hp _ _ (by omega), cl1_sh, sh_bind, push_rl (by omega) (by rfl), ob_some]

/-! ### in the box -/
theorem forC_all {step : PV → Unit → (Unit → Out) → (Unit → Out) → Out} {K : Unit → Out} {r : Out} (P : Nat → Bool) : ∀ (n lo : Nat),
    (∀ k, lo ≤ k → k < lo + n → ∀ kn kb, step (.int k) () kn kb = if P k then kn () else r) → forC step K (Pv.intsFrom lo n) () = if ((List.range' lo n).all P) then K () else r
  | 0, lo, h => rfl
  | n + 1, lo, h => by
    show step (.int lo) () (fun s => forC step K (Pv.intsFrom ((lo : Int) + 1) n) s) K = _
    rw [h lo (Nat.le_refl _) (by omega)]
    have := forC_all (step := step) (K := K) P n (lo + 1) fun k a b => h k (by omega) (by omega)
    rw [show ((lo : Int) + 1) = ((lo + 1 : Nat) : Int) by omega, this]
    rw [List.range'_succ, List.all_cons]
    cases P lo
    · rfl
    · rw [Bool.true_and]; rfl
theorem forC_all0 {step : PV → Unit → (Unit → Out) → (Unit → Out) → Out} {K : Unit → Out} {r : Out} {s : Unit} (P : Nat → Bool) (n : Nat)
    (h : ∀ k, k < n → ∀ kn kb, step (.int k) () kn kb = if P k then kn () else r) : forC step K (Pv.intsFrom 0 n) s = if ((List.range' 0 n).all P) then K () else r :=
  forC_all P n 0 fun k _ b => h k (by omega)
def inP (t w o : Nat → Rat) (z : Rat) (k : Nat) : Bool := if w k = 0 then decide (o k - t k = 0) else decide (ab (o k - t k) < z * w k)
def inB (n : Nat) (t w o : Nat → Rat) (z : Rat) : Bool := (List.range' 0 n).all (inP t w o z)
theorem ab_num (x : Rat) : ab x = 0 ↔ x = 0 := by
  unfold ab
  split
  · constructor
    · intro h; have := congrArg (fun y => -y) h; simpa using this
    · rintro rfl; rfl
  · rfl
theorem s_in (hb : ∀ x, C "bare" [fr x] = sh (fr (ab x))) (hl : S_lt C "less") (hi : S_sub C "minus") (hm : S_mul C "times") (hn : n ≤ 4) (hz : bz z ≤ 100) (ht : ∀ k < n, bz (t k) ≤ 100) (hw : ∀ k < n, bz (w k) ≤ 100) (ho : ∀ k < n, bz (o k) ≤ 1000) :
    mm_in_box C (.lst (lf n t)) (.lst (lf n w)) (fr z) (.lst (lf n o)) = sh (.bl (inB n t w o z)) := by
  unfold mm_in_box
  simp only [jn_def, sh_bind, ob_some, len_lst, rl_len, rng1_ok (show n ≤ 1000000 by omega)]
  rw [forC_all0 (r := sh (.bl false)) (inP t w o z) n]
  · unfold inB
    split
    · rename_i h; rw [h]
    · rename_i h; simp only [Bool.not_eq_true] at h; rw [h]
  · intro k hk kn kb
    have h1 := bz_mul z (w k)
    have h2 := hw k hk
    have h3 := ht k hk
    have h4 := ho k hk
    have h5 := bz_sub (o k) (t k)
    simp only [ix_rlL hk, sh_bind, ob_some, om_some, List.append_nil]
    rw [hi _ _ (by omega), cl1_sh, sh_bind]
    simp only [ob_some, om_some, List.append_nil, hb, cl1_sh, sh_bind, fr0, cmp_eq, cmp_ne, eqD_int, num_zero_iff, ab_num]
    rw [hm _ _ (by omega), cl1_sh, sh_bind]
    simp only [ob_some, om_some]
    rw [hl _ _ (by rw [bz_ab]; omega), cl1_sh, sh_bind, truth_bl]
    unfold inP
    by_cases h0 : w k = 0
    · by_cases h6 : o k - t k = 0 <;> simp [h0, h6]
    · by_cases h6 : ab (o k - t k) < z * w k <;> simp [h0, h6]
theorem s_lin (hb : ∀ x, C "_law_bare" [fr x] = sh (fr (ab x))) (hl : S_lt C "_law_before") (hi : S_sub C "_law_minus") (hm : S_mul C "_law_times") (hn : n ≤ 4) (hz : bz z ≤ 100) (ht : ∀ k < n, bz (t k) ≤ 100) (hw : ∀ k < n, bz (w k) ≤ 100) (hw0 : ∀ k < n, 0 ≤ w k) (ho : ∀ k < n, bz (o k) ≤ 1000) :
    mm__law_inside C (.lst (lf n t)) (.lst (lf n w)) (fr z) (.lst (lf n o)) = sh (.bl (inB n t w o z)) := by
  unfold mm__law_inside
  simp only [jn_def, sh_bind, ob_some, len_lst, rl_len, rng1_ok (show n ≤ 1000000 by omega)]
  rw [forC_all0 (r := sh (.bl false)) (inP t w o z) n]
  · unfold inB
    split
    · rename_i h; rw [h]
    · rename_i h; simp only [Bool.not_eq_true] at h; rw [h]
  · intro k hk kn kb
    have h1 := bz_mul z (w k)
    have h2 := hw k hk
    have h3 := ht k hk
    have h4 := ho k hk
    have h5 := bz_sub (o k) (t k)
    have h7 := hw0 k hk
    simp only [ix_rlL hk, sh_bind, ob_some, om_some, List.append_nil]
    rw [hi _ _ (by omega), cl1_sh, sh_bind]
    simp only [ob_some, om_some, List.append_nil, hb, cl1_sh, sh_bind, fr0, cmp_eq, cmp_ne, eqD_int, num_zero_iff, ab_num, cmp_gt, num_pos_iff]
    rw [hm _ _ (by omega), cl1_sh, sh_bind]
    simp only [ob_some, om_some]
    rw [hl _ _ (by rw [bz_ab]; omega), cl1_sh, sh_bind, truth_bl]
    unfold inP
    by_cases h0 : w k = 0
    · by_cases h6 : o k - t k = 0 <;> simp [h0, h6]
    · have h8 : 0 < w k := by grind
      by_cases h6 : ab (o k - t k) < z * w k <;> simp [h0, h6, h8]
/-! ### the law's top -/
theorem sgn_mul (x : Rat) (q : Rat) (b : Bool) (up : Int) (hu : up = if b then 1 else -1) (t : Rat) :
    t + ((if b then sgn x else -sgn x : Int) : Rat) * q = if 0 < x.num * up then t + q else if x.num * up < 0 then t - q else t := by
  subst hu
  unfold sgn
  have h1 := num_neg_iff x
  have h2 := num_pos_iff x
  by_cases hn : x < 0
  · have := h1.mpr hn
    cases b
    · have a1 : 0 < x.num * -1 := by omega
      simp [hn, a1]
      grind
    · have a1 : ¬ 0 < x.num * 1 := by omega
      have a2 : x.num * 1 < 0 := by omega
      simp [hn]
      have a3 : ¬ 0 < x.num := by omega
      have a4 : x.num < 0 := by omega
      have a5 : ¬ 0 < x := by grind
      simp [a3, a4, a5]
      grind
  · by_cases hp : 0 < x
    · have := h2.mpr hp
      cases b
      · have a1 : ¬ 0 < -x.num := by omega
        have a2 : -x.num < 0 := by omega
        simp [hn, hp, a1, a2]
        grind
      · have a1 : ¬ x.num ≤ 0 := by omega
        simp [hn, hp, a1, this]
    · have a1 : ¬ x.num < 0 := fun h => hn (h1.mp h)
      have a2 : ¬ 0 < x.num := fun h => hp (h2.mp h)
      have a3 : x.num = 0 := by omega
      cases b <;> simp [hn, hp, a3, Rat.add_zero]
theorem s_ltop (hp : S_add C "_law_plus") (hi : S_sub C "_law_minus") (hm : S_mul C "_law_times") (b : Bool) (up : Int) (hu : up = if b then 1 else -1) (hn : n ≤ 4) (hz : bz z ≤ 100) (hs : ∀ k < n, bz (s k) ≤ 100) (ht : ∀ k < n, bz (t k) ≤ 100) (hw : ∀ k < n, bz (w k) ≤ 100) :
    mm__law_top C (wo n c s) (.lst (lf n t)) (.lst (lf n w)) (fr z) (.int up) = some (.lst (lf n (cor b s t w z)), true) := by
  unfold mm__law_top
  simp only [jn_def, ix_t1, sh_bind, ob_some, len_lst, rl_len, rng1_ok (show n ≤ 1000000 by omega)]
  rw [forC_rng n (fun k => lf k (cor b s t w z)) (by simp)]
  intro k hk kn kb
  have h1 := bz_mul z (w k)
  have h2 := hw k hk
  have h3 := ht k hk
  have h4 := bz_num (s k)
  have h5 := hs k hk
  have hup : nb up.natAbs ≤ 10 := by subst hu; cases b <;> decide
  simp only [ix_rlT hk, ix_rlL hk, sh_bind, ob_some, om_some, List.append_nil]
  rw [hm _ _ (by omega), cl1_sh, sh_bind]
  simp only [fr0, sh_bind, op2_mul (mulOk_nb (show nb (s k).num.natAbs + nb up.natAbs ≤ 1000000 by omega)), cmp_gt, cmp_lt, ob_some]
  have e : fr (cor b s t w z k) = if 0 < (s k).num * up then fr (t k + z * w k) else if (s k).num * up < 0 then fr (t k - z * w k) else fr (t k) := by
    unfold cor
    rw [sgn_mul (s k) (z * w k) b up hu (t k)]
    split
    · rfl
    · split <;> rfl
  rw [hp _ _ (by omega), hi _ _ (by omega)]
  by_cases q1 : 0 < (s k).num * up
  · simp only [q1, decide_true, if_true, cl1_sh, sh_bind]
    rw [push_rl (by omega) (by rw [e, if_pos q1]), ob_some]
  · by_cases q2 : (s k).num * up < 0
    · simp only [q1, q2, decide_true, decide_false, Bool.false_eq_true, if_false, if_true, cl1_sh, sh_bind]
      rw [push_rl (by omega) (by rw [e, if_neg q1, if_pos q2]), ob_some]
    · simp only [q1, q2, decide_false, Bool.false_eq_true, if_false]
      rw [push_rl (by omega) (by rw [e, if_neg q1, if_neg q2]), ob_some]

/-! ### corners -/
theorem forC_pre {S α : Type} {step : PV → S → (S → Out) → (S → Out) → Out} {K : S → Out} (em : α → PV) (inv : List α → S) : ∀ (xs pre : List α),
    (∀ p x q, pre ++ xs = p ++ x :: q → ∀ kn kb, step (em x) (inv p) kn kb = kn (inv (p ++ [x]))) → forC step K (xs.map em) (inv pre) = K (inv (pre ++ xs))
  | [], pre, h => by rw [List.append_nil]; rfl
  | x :: xs, pre, h => by
    show step (em x) (inv pre) (fun s => forC step K (xs.map em) s) K = _
    rw [h pre x xs rfl]
    have := forC_pre (step := step) (K := K) em inv xs (pre ++ [x]) fun p y q e => h p y q (by rw [← e]; simp)
    rw [this]
    congr 2
    simp
theorem forC_pre0 {S α : Type} {step : PV → S → (S → Out) → (S → Out) → Out} {K : S → Out} {s0 : S} (em : α → PV) (inv : List α → S) (xs : List α) (h0 : s0 = inv [])
    (h : ∀ p x q, xs = p ++ x :: q → ∀ kn kb, step (em x) (inv p) kn kb = kn (inv (p ++ [x]))) : forC step K (xs.map em) s0 = K (inv xs) := by
  rw [h0]
  exact forC_pre em inv xs [] h
theorem op2_lst {a b : List PV} (h : a.length + b.length ≤ 1000000) : op2 .Add (.lst a) (.lst b) = sh (.lst (a ++ b)) := by
  show ((if a.length + b.length ≤ big then some (PV.lst (a ++ b), true) else none).bind fun z => sh z.1) = _
  rw [if_pos (show _ ≤ big from h)]
  rfl
def upd (r : Nat → Rat) (k : Nat) (x : Rat) : Nat → Rat := fun i => if i = k then x else r i
def cors (t q : Nat → Rat) : Nat → List (Nat → Rat)
  | 0 => [fun _ => 0]
  | k + 1 => (cors t q k).flatMap fun r => [upd r k (t k - q k), upd r k (t k + q k)]
theorem cors_len {t q : Nat → Rat} : ∀ k, (cors t q k).length = 2 ^ k
  | 0 => rfl
  | k + 1 => by
    have : ∀ l : List (Nat → Rat), (l.flatMap fun r => [upd r k (t k - q k), upd r k (t k + q k)]).length = 2 * l.length := by
      intro l
      induction l with
      | nil => rfl
      | cons x l ih => simp only [List.flatMap_cons, List.length_append, ih, List.length_cons, List.length_nil]; omega
    show ((cors t q k).flatMap _).length = _
    rw [this, cors_len k, Nat.pow_succ]; omega
theorem lf_upd {r : Nat → Rat} {k : Nat} {x : Rat} : lf k r ++ [fr x] = lf (k + 1) (upd r k x) := by
  have e : lf k r = lf k (upd r k x) := rl_congr fun i hi => by
    show fr (r i) = fr (upd r k x i)
    unfold upd
    rw [if_neg (by omega)]
  rw [e]
  have : fr x = (fun k' => fr (upd r k x k')) k := by
    show fr x = fr (upd r k x k)
    unfold upd
    rw [if_pos rfl]
  rw [this]
  exact rl_succ
theorem mem_cors {t q : Nat → Rat} {k : Nat} {r : Nat → Rat} (h : r ∈ cors t q (k + 1)) : ∃ r' ∈ cors t q k, r = upd r' k (t k - q k) ∨ r = upd r' k (t k + q k) := by
  obtain ⟨r', h1, h2⟩ := List.mem_flatMap.mp h
  refine ⟨r', h1, ?_⟩
  simpa using h2
theorem cors_bz {t q : Nat → Rat} {b : Nat} : ∀ {n : Nat}, (∀ k < n, bz (t k) + bz (q k) + 1 ≤ b) → ∀ r ∈ cors t q n, ∀ k < n, bz (r k) ≤ b
  | 0, _, r, _, k, hk => by omega
  | n + 1, h, r, hr, k, hk => by
    obtain ⟨r', h1, h2⟩ := mem_cors hr
    by_cases e : k = n
    · subst e
      have := h k (by omega)
      have := bz_sub (t k) (q k)
      have := bz_add (t k) (q k)
      rcases h2 with rfl | rfl <;> (unfold upd; rw [if_pos rfl]; omega)
    · have := cors_bz (fun j hj => h j (by omega)) r' h1 k (by omega)
      rcases h2 with rfl | rfl <;> (unfold upd; rw [if_neg e]; exact this)
theorem s_lcorners (hp : S_add C "_law_plus") (hi : S_sub C "_law_minus") (hm : S_mul C "_law_times") (hn : n ≤ 4) (hz : bz z ≤ 100) (ht : ∀ k < n, bz (t k) ≤ 100) (hw : ∀ k < n, bz (w k) ≤ 100) :
    mm__law_corners C (.lst (lf n t)) (.lst (lf n w)) (fr z) = sh (.lst ((cors t (fun k => z * w k) n).map fun r => .lst (lf n r))) := by
  unfold mm__law_corners
  simp only [jn_def, sh_bind, ob_some, len_lst, rl_len, rng1_ok (show n ≤ 1000000 by omega)]
  rw [forC_rng n (fun k => .lst ((cors t (fun k => z * w k) k).map fun r => .lst (lf k r))) (by rfl)]
  · rfl
  intro k hk kn kb
  have h1 := bz_mul z (w k)
  have h2 := hw k hk
  have h3 := ht k hk
  have hl : (cors t (fun k => z * w k) k).length ≤ 16 := by
    rw [cors_len]
    exact Nat.le_trans (Nat.pow_le_pow_right (by omega) (show k ≤ 4 by omega)) (by decide)
  simp only [ix_rlL hk, sh_bind, ob_some, om_some, List.append_nil]
  rw [hm _ _ (by omega), cl1_sh, sh_bind, seqOf_lst (by rw [List.length_map]; omega), ob_some]
  rw [forC_pre0 (fun r => PV.lst (lf k r)) (fun p => p.flatMap fun r => [PV.lst (lf (k + 1) (upd r k (t k - z * w k))), PV.lst (lf (k + 1) (upd r k (t k + z * w k)))]) (cors t (fun k => z * w k) k) (by simp)]
  · congr 2
    show _ = ((cors t (fun k => z * w k) k).flatMap _).map _
    rw [List.map_flatMap]
    rfl
  · intro p r q hpq kn kb
    have hlp : p.length < 16 := by
      have := congrArg List.length hpq
      simp at this
      omega
    have hfl : ∀ l : List (Nat → Rat), (l.flatMap fun r => [PV.lst (lf (k + 1) (upd r k (t k - z * w k))), .lst (lf (k + 1) (upd r k (t k + z * w k)))]).length = 2 * l.length := by
      intro l
      induction l with
      | nil => rfl
      | cons x l ih => simp only [List.flatMap_cons, List.length_append, ih, List.length_cons, List.length_nil]; omega
    rw [hi _ _ (by omega), cl1_sh, sh_bind, hp _ _ (by omega), cl1_sh, sh_bind]
    simp only [ob_some]
    rw [op2_lst (by simp; omega), sh_bind, lf_upd, pushO_ok (by rw [hfl]; omega), ob_some, op2_lst (by simp; omega), sh_bind, lf_upd, pushO_ok (by rw [List.length_append, hfl]; simp; omega), ob_some]
    congr 1
    simp

/-! ### what the corners' values are -/
theorem ab_bd (x q : Rat) (h : 0 ≤ q) : x * q ≤ ab x * q ∧ -(ab x * q) ≤ x * q := by
  unfold ab
  by_cases hx : x < 0
  · rw [if_pos hx]
    have : 0 ≤ (-x) * q := Rat.mul_nonneg (by grind) h
    constructor <;> grind
  · rw [if_neg hx]
    have : 0 ≤ x * q := Rat.mul_nonneg (by grind) h
    constructor <;> grind
theorem sm_upd {k : Nat} {r : Nat → Rat} {x : Rat} : sm (k + 1) (fun i => s i * upd r k x i) = sm k (fun i => s i * r i) + s k * x := by
  show sm k (fun i => s i * upd r k x i) + s k * upd r k x k = _
  rw [sm_congr k (g := fun i => s i * r i) fun i hi => by unfold upd; rw [if_neg (by omega)]]
  unfold upd
  rw [if_pos rfl]
theorem cors_bd (hz : 0 ≤ z) : ∀ n, (∀ k < n, 0 ≤ w k) → ∀ r ∈ cors t (fun k => z * w k) n,
    sm n (fun k => s k * t k) - z * sm n (fun k => ab (s k) * w k) ≤ sm n (fun k => s k * r k) ∧ sm n (fun k => s k * r k) ≤ sm n (fun k => s k * t k) + z * sm n (fun k => ab (s k) * w k)
  | 0, _, r, _ => by
    show (0 : Rat) - z * 0 ≤ 0 ∧ (0 : Rat) ≤ 0 + z * 0
    constructor <;> grind
  | n + 1, hw, r, hr => by
    obtain ⟨r', h1, h2⟩ := mem_cors hr
    obtain ⟨a1, a2⟩ := cors_bd hz n (fun k hk => hw k (by omega)) r' h1
    obtain ⟨b1, b2⟩ := ab_bd (s n) (z * w n) (Rat.mul_nonneg hz (hw n (by omega)))
    have e1 : sm (n + 1) (fun k => s k * t k) = sm n (fun k => s k * t k) + s n * t n := rfl
    have e2 : sm (n + 1) (fun k => ab (s k) * w k) = sm n (fun k => ab (s k) * w k) + ab (s n) * w n := rfl
    rw [e1, e2]
    rcases h2 with rfl | rfl
    · rw [sm_upd]; constructor <;> grind
    · rw [sm_upd]; constructor <;> grind
theorem cors_at (hz : 0 ≤ z) : ∀ n, (∀ k < n, 0 ≤ w k) →
    (∃ r ∈ cors t (fun k => z * w k) n, sm n (fun k => s k * r k) = sm n (fun k => s k * t k) - z * sm n (fun k => ab (s k) * w k)) ∧ ∃ r ∈ cors t (fun k => z * w k) n, sm n (fun k => s k * r k) = sm n (fun k => s k * t k) + z * sm n (fun k => ab (s k) * w k)
  | 0, _ => by
    refine ⟨⟨fun _ => 0, by simp [cors], ?_⟩, ⟨fun _ => 0, by simp [cors], ?_⟩⟩
    · show (0 : Rat) = 0 - z * 0
      grind
    · show (0 : Rat) = 0 + z * 0
      grind
  | n + 1, hw => by
    obtain ⟨⟨r1, m1, q1⟩, ⟨r2, m2, q2⟩⟩ := cors_at hz n fun k hk => hw k (by omega)
    have e1 : sm (n + 1) (fun k => s k * t k) = sm n (fun k => s k * t k) + s n * t n := rfl
    have e2 : sm (n + 1) (fun k => ab (s k) * w k) = sm n (fun k => ab (s k) * w k) + ab (s n) * w n := rfl
    have mem : ∀ (r : Nat → Rat), r ∈ cors t (fun k => z * w k) n → upd r n (t n - z * w n) ∈ cors t (fun k => z * w k) (n + 1) ∧ upd r n (t n + z * w n) ∈ cors t (fun k => z * w k) (n + 1) := fun r hr =>
      ⟨List.mem_flatMap.mpr ⟨r, hr, by simp⟩, List.mem_flatMap.mpr ⟨r, hr, by simp⟩⟩
    by_cases hs : s n < 0
    · have ea : ab (s n) = - s n := if_pos hs
      refine ⟨⟨_, (mem r1 m1).2, ?_⟩, ⟨_, (mem r2 m2).1, ?_⟩⟩
      · rw [sm_upd, q1, e1, e2, ea]; grind
      · rw [sm_upd, q2, e1, e2, ea]; grind
    · have ea : ab (s n) = s n := if_neg hs
      refine ⟨⟨_, (mem r1 m1).1, ?_⟩, ⟨_, (mem r2 m2).2, ?_⟩⟩
      · rw [sm_upd, q1, e1, e2, ea]; grind
      · rw [sm_upd, q2, e1, e2, ea]; grind
theorem sgn_ab (x : Rat) : x * ((sgn x : Int) : Rat) = ab x := by
  unfold sgn ab
  by_cases h : x < 0
  · simp [h]; grind
  · by_cases h2 : 0 < x
    · simp [h, h2]
    · have : x = 0 := by grind
      subst this
      decide +kernel
theorem cor_sm (b : Bool) : ∀ n, sm n (fun k => s k * cor b s t w z k) = if b then sm n (fun k => s k * t k) + z * sm n (fun k => ab (s k) * w k) else sm n (fun k => s k * t k) - z * sm n (fun k => ab (s k) * w k)
  | 0 => by
    cases b
    · show (0 : Rat) = 0 - z * 0
      grind
    · show (0 : Rat) = 0 + z * 0
      grind
  | n + 1 => by
    have e0 : sm (n + 1) (fun k => s k * cor b s t w z k) = sm n (fun k => s k * cor b s t w z k) + s n * cor b s t w z n := rfl
    have e1 : sm (n + 1) (fun k => s k * t k) = sm n (fun k => s k * t k) + s n * t n := rfl
    have e2 : sm (n + 1) (fun k => ab (s k) * w k) = sm n (fun k => ab (s k) * w k) + ab (s n) * w n := rfl
    have e3 := sgn_ab (s n)
    rw [e0, e1, e2, cor_sm b n]
    unfold cor
    cases b
    · have : ((-sgn (s n) : Int) : Rat) = -((sgn (s n) : Int) : Rat) := by simp
      simp only [Bool.false_eq_true, if_false, this]
      grind
    · simp only [if_true]
      grind
end
end K60

namespace K60
open PySem L2 Pv

theorem jn_at {S : Type} {R : S → Out} {A : (S → Out) → Out} {r : Out} (s : S) (hA : ∀ j, A j = j s) (hR : R s = r) : jn R A = r := by
  rw [jn_def, hA, hR]
theorem rl_pl {n : Nat} {t : Nat → Rat} : (PV.lst (lf n t)).pl = true ∧ (PV.lst (lf n t)).dp ≤ 2 := by
  constructor
  · show PV.pls _ = true
    rw [pls_all]
    intro x hx
    obtain ⟨k, _, rfl⟩ := List.mem_map.mp hx
    exact fr_pl
  · show PV.dps _ + 1 ≤ 2
    have : PV.dps (lf n t) ≤ 1 := by
      rw [dps_le]
      intro x hx
      obtain ⟨k, _, rfl⟩ := List.mem_map.mp hx
      simp
    omega
theorem eq_lf {n : Nat} {t : Nat → Rat} : eqD (.lst (lf n t)) (.lst (lf n t)) = some true := eqD_self rl_pl.1 (by have := rl_pl (n := n) (t := t) |>.2; omega)
theorem eq_pair {x y : Rat} : eqD (.tup [fr x, fr y]) (.tup [fr x, fr y]) = some true := eqD_self (by simp [PV.pl, PV.pls]) (by simp [PV.dp, PV.dps])
/-- the least, the greatest -/
def mn (v : (Nat → Rat) → Rat) (x0 : Rat) (p : List (Nat → Rat)) : Rat := p.foldl (fun l r => if v r < l then v r else l) x0
def mx (v : (Nat → Rat) → Rat) (x0 : Rat) (p : List (Nat → Rat)) : Rat := p.foldl (fun l r => if l < v r then v r else l) x0
theorem mn_mem {v : (Nat → Rat) → Rat} {x0 : Rat} : ∀ (p : List (Nat → Rat)), mn v x0 p = x0 ∨ ∃ r ∈ p, mn v x0 p = v r := by
  intro p
  unfold mn
  induction p generalizing x0 with
  | nil => exact .inl rfl
  | cons a p ih =>
    rw [List.foldl_cons]
    rcases ih (x0 := if v a < x0 then v a else x0) with h | ⟨r, hr, h⟩
    · rw [h]
      split
      · exact .inr ⟨a, by simp, rfl⟩
      · exact .inl rfl
    · exact .inr ⟨r, by simp [hr], h⟩
theorem mx_mem {v : (Nat → Rat) → Rat} {x0 : Rat} : ∀ (p : List (Nat → Rat)), mx v x0 p = x0 ∨ ∃ r ∈ p, mx v x0 p = v r := by
  intro p
  unfold mx
  induction p generalizing x0 with
  | nil => exact .inl rfl
  | cons a p ih =>
    rw [List.foldl_cons]
    rcases ih (x0 := if x0 < v a then v a else x0) with h | ⟨r, hr, h⟩
    · rw [h]
      split
      · exact .inr ⟨a, by simp, rfl⟩
      · exact .inl rfl
    · exact .inr ⟨r, by simp [hr], h⟩
theorem mn_le {v : (Nat → Rat) → Rat} {x0 : Rat} : ∀ (p : List (Nat → Rat)), mn v x0 p ≤ x0 ∧ ∀ r ∈ p, mn v x0 p ≤ v r := by
  intro p
  unfold mn
  induction p generalizing x0 with
  | nil => exact ⟨Rat.le_refl, by simp⟩
  | cons a p ih =>
    rw [List.foldl_cons]
    obtain ⟨h1, h2⟩ := ih (x0 := if v a < x0 then v a else x0)
    have h3 : (if v a < x0 then v a else x0) ≤ x0 ∧ (if v a < x0 then v a else x0) ≤ v a := by split <;> constructor <;> grind
    refine ⟨Rat.le_trans h1 h3.1, fun r hr => ?_⟩
    rcases List.mem_cons.mp hr with rfl | hr
    · exact Rat.le_trans h1 h3.2
    · exact h2 r hr
theorem mx_ge {v : (Nat → Rat) → Rat} {x0 : Rat} : ∀ (p : List (Nat → Rat)), x0 ≤ mx v x0 p ∧ ∀ r ∈ p, v r ≤ mx v x0 p := by
  intro p
  unfold mx
  induction p generalizing x0 with
  | nil => exact ⟨Rat.le_refl, by simp⟩
  | cons a p ih =>
    rw [List.foldl_cons]
    obtain ⟨h1, h2⟩ := ih (x0 := if x0 < v a then v a else x0)
    have h3 : x0 ≤ (if x0 < v a then v a else x0) ∧ v a ≤ (if x0 < v a then v a else x0) := by split <;> constructor <;> grind
    refine ⟨Rat.le_trans h3.1 h1, fun r hr => ?_⟩
    rcases List.mem_cons.mp hr with rfl | hr
    · exact Rat.le_trans h3.2 h1
    · exact h2 r hr

structure Sp (C : Cl) : Prop where
  cell : ∀ ns : List Int, C "_law_cell" [.lst (ns.map .int), .int 0] = sh (.int ((ns.head?.getD 0).natAbs : Int))
  row : ∀ cell size base : Nat, size ≤ 1000 → 0 < base → base < 2 ^ 60 → ∃ f : Nat → Int, (∀ i, 0 ≤ f i ∧ f i < base) ∧ C "_law_row" [.int cell, .int size, .int base] = some (.lst (rl size fun i => .int (f i)), true)
  frac : S_lfraction C
  add : S_add C "_law_plus"
  sub : S_sub C "_law_minus"
  mul : S_mul C "_law_times"
  lt : S_lt C "_law_before"
  isf : ∀ x, bz x ≤ 4900 → C "_law_is_fraction" [fr x] = sh (.bl true)
  tru : ∀ a b : Bool, C "_law_is_truth" [.bl a, .bl b] = sh (.bl (decide (a = b)))
  swing : ∀ n c s w, n ≤ 4 → (∀ k < n, bz (s k) ≤ 100) → (∀ k < n, bz (w k) ≤ 300) → C "swing" [wo n c s, .lst (lf n w)] = sh (fr (0 + sm n fun k => ab (s k) * w k))
  lswing : ∀ n c s w, n ≤ 4 → (∀ k < n, bz (s k) ≤ 100) → (∀ k < n, bz (w k) ≤ 300) → C "_law_swing" [wo n c s, .lst (lf n w)] = sh (fr (0 + sm n fun k => ab (s k) * w k))
  value : ∀ n c s t, n ≤ 4 → bz c ≤ 100 → (∀ k < n, bz (s k) ≤ 100) → (∀ k < n, bz (t k) ≤ 300) → C "_law_value" [wo n c s, .lst (lf n t)] = sh (fr (c + sm n fun k => s k * t k))
  corners : ∀ n t w z, n ≤ 4 → bz z ≤ 100 → (∀ k < n, bz (t k) ≤ 100) → (∀ k < n, bz (w k) ≤ 100) → C "_law_corners" [.lst (lf n t), .lst (lf n w), fr z] = sh (.lst ((cors t (fun k => z * w k) n).map fun r => .lst (lf n r)))
  ext : ∀ n c s t w z, n ≤ 4 → bz z ≤ 100 → bz c ≤ 100 → (∀ k < n, bz (s k) ≤ 100) → (∀ k < n, bz (t k) ≤ 100) → (∀ k < n, bz (w k) ≤ 100) → C "extremes" [wo n c s, .lst (lf n t), .lst (lf n w), fr z] = sh (.tup [fr (lov n c s t w z), fr (hiv n c s t w z)])
  corner : ∀ b n c s t w z, n ≤ 4 → bz z ≤ 100 → (∀ k < n, bz (s k) ≤ 100) → (∀ k < n, bz (t k) ≤ 100) → (∀ k < n, bz (w k) ≤ 100) → C "corner_at" [wo n c s, .lst (lf n t), .lst (lf n w), fr z, .bl b] = some (.lst (lf n (cor b s t w z)), true)
  top : ∀ (b : Bool) (up : Int) n c s t w z, up = (if b then 1 else -1) → n ≤ 4 → bz z ≤ 100 → (∀ k < n, bz (s k) ≤ 100) → (∀ k < n, bz (t k) ≤ 100) → (∀ k < n, bz (w k) ≤ 100) → C "_law_top" [wo n c s, .lst (lf n t), .lst (lf n w), fr z, .int up] = some (.lst (lf n (cor b s t w z)), true)
  inb : ∀ n t w z o, n ≤ 4 → bz z ≤ 100 → (∀ k < n, bz (t k) ≤ 100) → (∀ k < n, bz (w k) ≤ 100) → (∀ k < n, bz (o k) ≤ 1000) → C "in_box" [.lst (lf n t), .lst (lf n w), fr z, .lst (lf n o)] = sh (.bl (inB n t w o z))
  lin : ∀ n t w z o, n ≤ 4 → bz z ≤ 100 → (∀ k < n, bz (t k) ≤ 100) → (∀ k < n, bz (w k) ≤ 100) → (∀ k < n, 0 ≤ w k) → (∀ k < n, bz (o k) ≤ 1000) → C "_law_inside" [.lst (lf n t), .lst (lf n w), fr z, .lst (lf n o)] = sh (.bl (inB n t w o z))

theorem bz_small {n d : Int} (hn : -1000 < n) (hn2 : n < 1000) (hd : -1000 < d) (hd2 : d < 1000) : bz (Rat.divInt n d) ≤ 10 :=
  bz_divInt (nb_le (by show n.natAbs < 1024; omega) (by omega)) (nb_le (by show d.natAbs < 1024; omega) (by omega))
theorem divInt_nonneg' {n d : Int} (hn : 0 ≤ n) (hd : 0 < d) : 0 ≤ Rat.divInt n d := by
  rw [← Rat.num_nonneg, Rat.num_divInt, Int.sign_eq_one_of_pos hd, Int.one_mul]
  exact Int.ediv_nonneg hn (by omega)
theorem bz_val {n : Nat} {c : Rat} {s r : Nat → Rat} (hn : n ≤ 4) (hc : bz c ≤ 100) (hs : ∀ k < n, bz (s k) ≤ 100) (hr : ∀ k < n, bz (r k) ≤ 300) : bz (c + sm n fun k => s k * r k) ≤ 2000 := by
  have h4 := bz_sm (b := 400) (f := fun k => s k * r k) n fun j hj => by
    have := hs j (by omega)
    have := hr j (by omega)
    have := bz_mul (s j) (r j)
    show bz (s j * r j) ≤ 400
    omega
  have h5 := bz_add c (sm n fun k => s k * r k)
  have : n * (400 + 1) ≤ 4 * 401 := Nat.mul_le_mul (by omega) (by omega)
  omega
theorem ix_map {α : Type} {l : List α} {em : α → PV} {i : Int} (h : 0 ≤ i) (h2 : i < l.length) : ∃ x ∈ l, ix (.lst (l.map em)) (.int i) = sh (em x) := by
  obtain ⟨k, rfl⟩ := Int.eq_ofNat_of_zero_le h
  have hk : k < l.length := by omega
  exact ⟨l[k], List.getElem_mem hk, ixL (by simp [hk])⟩
theorem setIx_rl {n k : Nat} {g : Nat → PV} {v : PV} (h : k < n) : setIx (rl n g) (.int k) v = some (rl n fun i => if i = k then v else g i) := by
  have e : (rl n g).set k v = rl n fun i => if i = k then v else g i := by
    apply List.ext_getElem?
    intro i
    by_cases hi : i < n
    · rw [rl_get hi, List.getElem?_set]
      by_cases hk : k = i
      · subst hk; simp [h]
      · rw [if_neg hk, rl_get hi]
        have : ¬ i = k := fun z => hk z.symm
        simp [this]
    · rw [List.getElem?_eq_none (by simp; omega), List.getElem?_eq_none (by simp; omega)]
  show ((ixN (rl n g).length k).map fun j => (rl n g).set j v) = _
  unfold ixN
  rw [if_pos (by omega), if_pos (by simp; omega)]
  simp only [om_some, Int.toNat_natCast, e]
theorem law_ok {C : Cl} (S : Sp C) (ns : List Int) : mm_law C (.lst (ns.map .int)) = sh (.bl true) := by
  obtain ⟨f, hf, hrow⟩ := S.row (ns.head?.getD 0).natAbs 30 1000 (by omega) (by omega) (by omega)
  have hrow : C "_law_row" [.int ((ns.head?.getD 0).natAbs : Int), .int 30, .int 1000] = some (.lst (rl 30 fun i => .int (f i)), true) := hrow
  have I : ∀ i : Int, 0 ≤ i → i < 30 → ix (.lst (rl 30 fun i => .int (f i))) (.int i) = sh (.int (f i.toNat)) := fun i a b => ix_rlI a (by omega)
  have hf : ∀ i, 0 ≤ f i ∧ f i < 1000 := hf
  have I0 : ix (.lst (rl 30 fun i => .int (f i))) (.int 0) = sh (.int (f 0)) := ix_rlL (i := 0) (by omega)
  have I9 : ix (.lst (rl 30 fun i => .int (f i))) (.int 9) = sh (.int (f 9)) := ix_rlL (i := 9) (by omega)
  have I10 : ix (.lst (rl 30 fun i => .int (f i))) (.int 10) = sh (.int (f 10)) := ix_rlL (i := 10) (by omega)
  have I23 : ix (.lst (rl 30 fun i => .int (f i))) (.int 23) = sh (.int (f 23)) := ix_rlL (i := 23) (by omega)
  have I24 : ix (.lst (rl 30 fun i => .int (f i))) (.int 24) = sh (.int (f 24)) := ix_rlL (i := 24) (by omega)
  have I29 : ix (.lst (rl 30 fun i => .int (f i))) (.int 29) = sh (.int (f 29)) := ix_rlL (i := 29) (by omega)
  obtain ⟨m, hm⟩ : ∃ m : Nat, (m : Int) = 1 + f 0 % 4 := ⟨(1 + f 0 % 4).toNat, by have := hf 0; omega⟩
  have hm4 : m ≤ 4 := by have := hf 0; omega
  have hm1 : 1 ≤ m := by have := hf 0; omega
  unfold mm_law
  refine jn_at (.lst (rl 30 fun i => .int (f i)), .int m, lf m fun k => Rat.divInt (f (1 + (k : Int)).toNat % 13 - 6) (1 + f (5 + (k : Int)).toNat % 4)) ?_ ?_
  · intro j
    simp only [S.cell, cl1_sh, sh_bind, ob_some, List.append_nil, hrow, cl2_own, ownO_own]
    rw [I0]
    simp only [sh_bind]
    rw [op2_mods (by omega), sh_bind, op2_add, sh_bind]
    rw [← hm, rng1_ok (by omega), ob_some, ints0, compM_rl m (g := fun k => fr (Rat.divInt (f (1 + (k : Int)).toNat % 13 - 6) (1 + f (5 + (k : Int)).toNat % 4)))]
    · rfl
    · intro k hk
      simp only [op2_add, sh_bind]
      have := hf (5 + (k : Int)).toNat
      rw [I _ (by omega) (by omega), sh_bind, op2_mods (by omega), sh_bind, op2_sub, sh_bind, I _ (by omega) (by omega), sh_bind, op2_mods (by omega), sh_bind, op2_add, sh_bind]
      simp only [ob_some, om_some, List.append_nil]
      rw [        S.frac _ _ (by omega) (by refine Nat.le_trans (nb_le (k := 10) ?_ (by omega)) (by omega); show (1 + f (5 + (k : Int)).toNat % 4).natAbs < 1024; omega), cl1_sh, sh_bind]
  generalize hs : (fun k : Nat => Rat.divInt (f (1 + (k : Int)).toNat % 13 - 6) (1 + f (5 + (k : Int)).toNat % 4)) = s
  have bs : ∀ k, bz (s k) ≤ 10 := fun k => by
    rw [← hs]
    exact bz_small (by omega) (by omega) (by omega) (by omega)
  generalize hc : Rat.divInt (f 9 % 61 - 30) (1 + f 10 % 5) = c
  have bc : bz c ≤ 10 := by rw [← hc]; exact bz_small (by omega) (by omega) (by omega) (by omega)
  generalize ht : (fun k : Nat => Rat.divInt (f (11 + (k : Int)).toNat % 41 - 20) (1 + f (15 + (k : Int)).toNat % 3)) = t
  have bt : ∀ k, bz (t k) ≤ 10 := fun k => by
    rw [← ht]
    exact bz_small (by omega) (by omega) (by omega) (by omega)
  generalize hw : (fun k : Nat => Rat.divInt (f (19 + (k : Int)).toNat % 5) (1 + f (15 + (k : Int)).toNat % 3)) = w
  have bw : ∀ k, bz (w k) ≤ 10 := fun k => by
    rw [← hw]
    exact bz_small (by omega) (by omega) (by omega) (by omega)
  have w0 : ∀ k, 0 ≤ w k := fun k => by
    rw [← hw]
    exact divInt_nonneg' (by omega) (by omega)
  generalize hz : Rat.divInt (f 23 % 7) (1 + f 24 % 4) = z
  have bzz : bz z ≤ 10 := by rw [← hz]; exact bz_small (by omega) (by omega) (by omega) (by omega)
  have z0 : 0 ≤ z := by rw [← hz]; exact divInt_nonneg' (by omega) (by omega)
  show jn _ _ = _
  refine jn_at (.lst (lf m s), wo m c s, lf m t) ?_ ?_
  · intro j
    dsimp only
    simp only [I9, I10, sh_bind]
    rw [op2_mods (by omega), sh_bind, op2_sub, sh_bind, op2_mods (by omega), sh_bind, op2_add, sh_bind]
    simp only [ob_some, om_some, List.append_nil]
    rw [S.frac _ _ (by omega) (by refine Nat.le_trans (nb_le (k := 10) ?_ (by omega)) (by omega); show (1 + f 10 % 5).natAbs < 1024; omega), cl1_sh, sh_bind]
    simp only [tuple_lst, sh_bind, ob_some, om_some]
    rw [rng1_ok (by omega), ob_some, ints0, compM_rl m (g := fun k => fr (t k))]
    · rw [← hc]; rfl
    · intro k hk
      simp only [op2_add, sh_bind]
      rw [I _ (by omega) (by omega), sh_bind, op2_mods (by omega), sh_bind, op2_sub, sh_bind, I _ (by omega) (by omega), sh_bind, op2_mods (by omega), sh_bind, op2_add, sh_bind]
      simp only [ob_some, om_some, List.append_nil]
      rw [        S.frac _ _ (by omega) (by refine Nat.le_trans (nb_le (k := 10) ?_ (by omega)) (by omega); show (1 + f (15 + (k : Int)).toNat % 3).natAbs < 1024; omega), cl1_sh, sh_bind, ← ht]
  refine jn_at (lf m w, fr z) ?_ ?_
  · intro j
    dsimp only
    rw [rng1_ok (by omega), ob_some, ints0, compM_rl m (g := fun k => fr (w k))]
    · simp only [ob_some, ownO_own]
      rw [I23, sh_bind, op2_mods (by omega), sh_bind, I24, sh_bind, op2_mods (by omega), sh_bind, op2_add, sh_bind]
      simp only [ob_some, om_some, List.append_nil]
      rw [        S.frac _ _ (by omega) (by refine Nat.le_trans (nb_le (k := 10) ?_ (by omega)) (by omega); show (1 + f 24 % 4).natAbs < 1024; omega), cl1_sh, sh_bind, ← hz]
    · intro k hk
      simp only [op2_add, sh_bind]
      rw [I _ (by omega) (by omega), sh_bind, op2_mods (by omega), sh_bind, I _ (by omega) (by omega), sh_bind, op2_mods (by omega), sh_bind, op2_add, sh_bind]
      simp only [ob_some, om_some, List.append_nil]
      rw [        S.frac _ _ (by omega) (by refine Nat.le_trans (nb_le (k := 10) ?_ (by omega)) (by omega); show (1 + f (15 + (k : Int)).toNat % 3).natAbs < 1024; omega), cl1_sh, sh_bind, ← hw]
  -- corners
  generalize hq : (fun k : Nat => z * w k) = q
  have bq : ∀ k, bz (q k) ≤ 20 := fun k => by
    rw [← hq]
    have := bz_mul z (w k)
    have := bw k
    show bz (z * w k) ≤ 20
    omega
  generalize hCS : cors t q m = CS
  have hlen : CS.length ≤ 16 := by
    rw [← hCS, cors_len]
    exact Nat.le_trans (Nat.pow_le_pow_right (by omega) hm4) (by decide)
  have hpos : 0 < CS.length := by
    rw [← hCS, cors_len]
    exact Nat.two_pow_pos m
  have bCS : ∀ r ∈ CS, ∀ k < m, bz (r k) ≤ 31 := by
    rw [← hCS]
    exact cors_bz fun k hk => by have := bt k; have := bq k; omega
  generalize hval : (fun r : Nat → Rat => c + sm m fun k => s k * r k) = val
  have bval : ∀ r ∈ CS, bz (val r) ≤ 2000 := fun r hr => by
    rw [← hval]
    exact bz_val hm4 (by omega) (fun k _ => by have := bs k; omega) (fun k hk => by have := bCS r hr k hk; omega)
  have hsw := S.swing m c s w hm4 (fun k _ => by have := bs k; omega) (fun k _ => by have := bw k; omega)
  have hlsw := S.lswing m c s w hm4 (fun k _ => by have := bs k; omega) (fun k _ => by have := bw k; omega)
  have bsw : bz (0 + sm m fun k => ab (s k) * w k) ≤ 2000 := bz_val (s := fun k => ab (s k)) hm4 (by rw [bz_zero]; omega) (fun k _ => by rw [bz_ab]; have := bs k; omega) (fun k _ => by have := bw k; omega)
  have hco := S.corners m t w z hm4 (by omega) (fun k _ => by have := bt k; omega) (fun k _ => by have := bw k; omega)
  rw [hq, hCS] at hco
  refine jn_at (.lst (lf m t), .lst (lf m w), .tup [.lst (lf m t), .lst (lf m w)], .lst (CS.map fun r => .lst (lf m r)), CS.map fun r => fr (val r)) ?_ ?_
  · intro j
    dsimp only
    simp only [list_lst, ob_some, om_some, sh_bind, hsw, hlsw, cl1_sh, List.append_nil, S.isf _ (show bz (0 + sm m fun k => ab (s k) * w k) ≤ 4900 by omega), truth_bl, Bool.not_true, Bool.false_eq_true, if_false, cmp_ne, eqD_fr, decide_true, hco]
    rw [seqOf_lst (by rw [List.length_map]; omega), ob_some, compM_map (g := fun r => fr (val r))]
    · rfl
    · intro r hr
      rw [S.value m c s r hm4 (by omega) (fun k _ => by have := bs k; omega) (fun k hk => by have := bCS r hr k hk; omega), cl1_sh, sh_bind, ← hval]
  obtain ⟨r0, rest, hcs0⟩ : ∃ r0 rest, CS = r0 :: rest := by
    cases CS with
    | nil => simp at hpos
    | cons a b => exact ⟨a, b, rfl⟩
  refine jn_at (.lst (CS.map fun r => fr (val r)), fr (val r0), fr (val r0)) ?_ ?_
  · intro j
    dsimp only
    have e : ix (.lst (CS.map fun r => fr (val r))) (.int 0) = sh (fr (val r0)) := by rw [hcs0]; exact ix_l0
    simp only [e, sh_bind]
  have hr0 : r0 ∈ CS := by rw [hcs0]; simp
  have hmn : mn val (val r0) CS = lov m c s t w z := by
    obtain ⟨h1, h2⟩ := mn_le (v := val) (x0 := val r0) CS
    obtain ⟨⟨r1, m1, q1⟩, _⟩ := cors_at (s := s) (t := t) (w := w) z0 m fun k _ => w0 k
    have lo : ∀ r ∈ CS, lov m c s t w z ≤ val r := fun r hr => by
      have := (cors_bd (s := s) (t := t) z0 m (fun k _ => w0 k) r (by rw [hq, hCS]; exact hr)).1
      rw [← hval]
      unfold lov
      grind
    have hv1 : val r1 = lov m c s t w z := by rw [← hval]; unfold lov; show c + sm m (fun k => s k * r1 k) = _; rw [q1]; grind
    have h3 := h2 r1 (by rw [← hCS, ← hq]; exact m1)
    rw [hv1] at h3
    have h4 : lov m c s t w z ≤ mn val (val r0) CS := by
      rcases mn_mem (v := val) (x0 := val r0) CS with h | ⟨r, hr, h⟩
      · rw [h]; exact lo r0 hr0
      · rw [h]; exact lo r hr
    exact Rat.le_antisymm h3 h4
  have hmx : mx val (val r0) CS = hiv m c s t w z := by
    obtain ⟨h1, h2⟩ := mx_ge (v := val) (x0 := val r0) CS
    obtain ⟨_, ⟨r1, m1, q1⟩⟩ := cors_at (s := s) (t := t) (w := w) z0 m fun k _ => w0 k
    have hi : ∀ r ∈ CS, val r ≤ hiv m c s t w z := fun r hr => by
      have := (cors_bd (s := s) (t := t) z0 m (fun k _ => w0 k) r (by rw [hq, hCS]; exact hr)).2
      rw [← hval]
      unfold hiv
      grind
    have hv1 : val r1 = hiv m c s t w z := by rw [← hval]; unfold hiv; show c + sm m (fun k => s k * r1 k) = _; rw [q1]; grind
    have h3 := h2 r1 (by rw [← hCS, ← hq]; exact m1)
    rw [hv1] at h3
    have h4 : mx val (val r0) CS ≤ hiv m c s t w z := by
      rcases mx_mem (v := val) (x0 := val r0) CS with h | ⟨r, hr, h⟩
      · rw [h]; exact hi r0 hr0
      · rw [h]; exact hi r hr
    exact Rat.le_antisymm h4 h3
  refine jn_at (fr (lov m c s t w z), fr (hiv m c s t w z)) ?_ ?_
  · intro j
    dsimp only
    rw [seqOf_lst (by rw [List.length_map]; omega), ob_some, forC_pre0 (s0 := (fr (val r0), fr (val r0))) (fun r => fr (val r)) (fun p => (fr (mn val (val r0) p), fr (mx val (val r0) p))) CS rfl]
    · rw [hmn, hmx]
    · intro p x qq hp kn kb
      have hx : x ∈ CS := by rw [hp]; simp
      have hpm : ∀ r ∈ p, r ∈ CS := fun r hr => by rw [hp]; simp [hr]
      have b0 := bval r0 hr0
      have bx := bval x hx
      have b1 : bz (mn val (val r0) p) ≤ 2000 := by
        rcases mn_mem (v := val) (x0 := val r0) p with h | ⟨r, hr, h⟩
        · rw [h]; exact b0
        · rw [h]; exact bval r (hpm r hr)
      have b2 : bz (mx val (val r0) p) ≤ 2000 := by
        rcases mx_mem (v := val) (x0 := val r0) p with h | ⟨r, hr, h⟩
        · rw [h]; exact b0
        · rw [h]; exact bval r (hpm r hr)
      have e1 : mn val (val r0) (p ++ [x]) = if val x < mn val (val r0) p then val x else mn val (val r0) p := by unfold mn; rw [List.foldl_append]; rfl
      have e2 : mx val (val r0) (p ++ [x]) = if mx val (val r0) p < val x then val x else mx val (val r0) p := by unfold mx; rw [List.foldl_append]; rfl
      rw [e1, e2]
      dsimp only
      simp only [jn_def]
      rw [S.lt _ _ (by omega), cl1_sh, sh_bind, truth_bl, ob_some, S.lt _ _ (by omega), cl1_sh, sh_bind, truth_bl]
      by_cases q1 : val x < mn val (val r0) p <;> by_cases q2 : mx val (val r0) p < val x <;> simp [q1, q2]
  have hext := S.ext m c s t w z hm4 (by omega) (by omega) (fun k _ => by have := bs k; omega) (fun k _ => by have := bt k; omega) (fun k _ => by have := bw k; omega)
  have hcor := fun b => S.corner b m c s t w z hm4 (by omega) (fun k _ => by have := bs k; omega) (fun k _ => by have := bt k; omega) (fun k _ => by have := bw k; omega)
  have htop := fun b up h => S.top b up m c s t w z h hm4 (by omega) (fun k _ => by have := bs k; omega) (fun k _ => by have := bt k; omega) (fun k _ => by have := bw k; omega)
  have bcor : ∀ b k, bz (cor b s t w z k) ≤ 50 := fun b k => by
    unfold cor
    have h1 := bz_sgn (s k)
    have h2 : bz ((if b then sgn (s k) else -sgn (s k) : Int) : Rat) ≤ 1 := by
      cases b
      · exact h1.2
      · exact h1.1
    have h3 := bz_mul z (w k)
    have h4 := bz_mul ((if b then sgn (s k) else -sgn (s k) : Int) : Rat) (z * w k)
    have h5 := bz_add (t k) (((if b then sgn (s k) else -sgn (s k) : Int) : Rat) * (z * w k))
    have h6 := bt k
    have h7 := bw k
    omega
  refine jn_at (lf m (cor true s t w z), lf m (cor false s t w z)) ?_ ?_
  · intro j
    dsimp only
    simp only [hext, cl1_sh, sh_bind, cmp_ne, eq_pair, om_some, ob_some, Bool.not_true, Bool.false_eq_true, if_false, hcor, cl2_own, ownO_own, ins_ll, truth_bl]
  refine jn_at () ?_ ?_
  · intro j
    have hv := fun b => S.value m c s (cor b s t w z) hm4 (by omega) (fun k _ => by have := bs k; omega) (fun k _ => by have := bcor b k; omega)
    have e1 : c + sm m (fun k => s k * cor true s t w z k) = hiv m c s t w z := by rw [cor_sm]; unfold hiv; simp only [if_true]; grind
    have e2 : c + sm m (fun k => s k * cor false s t w z k) = lov m c s t w z := by rw [cor_sm]; unfold lov; simp only [Bool.false_eq_true, if_false]; grind
    dsimp only
    simp only [htop true 1 rfl, htop false (-1) rfl, cl2_own, ob_some, cmp_ne, eq_lf, om_some, Bool.not_true, Bool.false_eq_true, if_false, hv, e1, e2, cl1_sh, sh_bind, eqD_fr, decide_true]
  have both : ∀ o : Nat → Rat, (∀ k < m, bz (o k) ≤ 1000) → C "in_box" [.lst (lf m t), .lst (lf m w), fr z, .lst (lf m o)] = sh (.bl (inB m t w o z)) ∧ C "_law_inside" [.lst (lf m t), .lst (lf m w), fr z, .lst (lf m o)] = sh (.bl (inB m t w o z)) := fun o ho =>
    ⟨S.inb m t w z o hm4 (by omega) (fun k _ => by have := bt k; omega) (fun k _ => by have := bw k; omega) ho, S.lin m t w z o hm4 (by omega) (fun k _ => by have := bt k; omega) (fun k _ => by have := bw k; omega) (fun k _ => w0 k) ho⟩
  refine jn_at () ?_ ?_
  · intro j
    dsimp only
    have r4 : rng1 (.int 4) = some (intsFrom 0 4) := rng1_ok (n := 4) (by omega)
    rw [r4, ob_some, forC_rng 4 (fun _ => ()) rfl]
    intro k hk kn kb
    obtain ⟨r, hr, hix⟩ := ix_map (l := CS) (em := fun r => .lst (lf m r)) (i := f (25 + (k : Int)).toNat % CS.length) (Int.emod_nonneg _ (by omega)) (Int.emod_lt_of_pos _ (by omega))
    refine jn_at (.lst (lf m r), []) ?_ ?_
    · intro j
      rw [op2_add, sh_bind, I _ (by omega) (by omega), sh_bind, len_lst, sh_bind, List.length_map, op2_mods (by omega), sh_bind, hix, sh_bind]
    refine jn_at (lf m fun i => t i + Rat.divInt k 2 * (r i - t i)) ?_ ?_
    · intro j
      dsimp only
      rw [rng1_ok (by omega), ob_some, forC_rng m (fun n => lf n fun i => t i + Rat.divInt k 2 * (r i - t i)) (by simp)]
      intro i hi kn kb
      have b1 := bt i
      have b2 := bCS r hr i hi
      have b3 := bz_sub (r i) (t i)
      have b4 : bz (Rat.divInt k 2) ≤ 10 := bz_small (by omega) (by omega) (by omega) (by omega)
      have b5 := bz_mul (Rat.divInt k 2) (r i - t i)
      simp only [ix_rlL hi, sh_bind, ob_some, om_some, List.append_nil]
      rw [S.frac _ _ (by omega) (by decide), cl1_sh, sh_bind, S.sub _ _ (by omega), cl1_sh, sh_bind]
      simp only [ob_some, om_some]
      rw [S.mul _ _ (by omega), cl1_sh, sh_bind]
      simp only [ob_some, om_some]
      rw [S.add _ _ (by omega), cl1_sh, sh_bind, push_rl (by omega) (by rfl), ob_some]
    obtain ⟨a1, a2⟩ := both (fun i => t i + Rat.divInt k 2 * (r i - t i)) fun i hi => by
      have b1 := bt i
      have b2 := bCS r hr i hi
      have b3 := bz_sub (r i) (t i)
      have b4 : bz (Rat.divInt k 2) ≤ 10 := bz_small (by omega) (by omega) (by omega) (by omega)
      have b5 := bz_mul (Rat.divInt k 2) (r i - t i)
      have b6 := bz_add (t i) (Rat.divInt k 2 * (r i - t i))
      show bz (t i + Rat.divInt k 2 * (r i - t i)) ≤ 1000
      omega
    simp only [a1, a2, cl1_sh, sh_bind, ob_some, om_some, List.append_nil, S.tru, decide_true, truth_bl, Bool.not_true, Bool.false_eq_true, if_false]
  refine jn_at () ?_ ?_
  · intro j
    dsimp only
    rw [rng1_ok (by omega), ob_some, forC_rng m (fun _ => ()) rfl]
    intro k hk kn kb
    have b1 := bt k
    have b4 : bz (Rat.divInt 1 (1 + f 29 % 7)) ≤ 10 := bz_small (by omega) (by omega) (by omega) (by omega)
    have b6 := bz_add (t k) (Rat.divInt 1 (1 + f 29 % 7))
    simp only [list_lst, ownO_own, ob_some, ix_rlL hk, I29, sh_bind]
    rw [op2_mods (by omega), sh_bind, op2_add, sh_bind]
    simp only [ob_some, om_some, List.append_nil]
    rw [S.frac _ _ (by omega) (by refine Nat.le_trans (nb_le (k := 10) ?_ (by omega)) (by omega); show (1 + f 29 % 7).natAbs < 1024; omega), cl1_sh, sh_bind]
    simp only [ob_some, om_some]
    rw [S.add _ _ (by omega), cl1_sh, sh_bind, fr_flat, if_pos rfl, setIx_rl hk, ob_some]
    have e : (rl m fun i => if i = k then fr (t k + Rat.divInt 1 (1 + f 29 % 7)) else fr (t i)) = lf m (upd t k (t k + Rat.divInt 1 (1 + f 29 % 7))) := rl_congr fun i _ => by
      unfold upd
      split <;> rfl
    rw [e]
    obtain ⟨a1, a2⟩ := both (upd t k (t k + Rat.divInt 1 (1 + f 29 % 7))) fun i _ => by
      unfold upd
      have := bt i
      split <;> omega
    simp only [a1, a2, cl1_sh, sh_bind, ob_some, om_some, List.append_nil, S.tru, decide_true, truth_bl, Bool.not_true, Bool.false_eq_true, if_false]
  dsimp only
  simp only [ix_t0, ix_t1, sh_bind, cmpV_def, cmp_eq, eq_lf, ob_some, blOf_bl, if_true]
  rfl
end K60

namespace K60
open PySem L2 Pv
theorem a_common (d : Nat) : S_common (run prog (d + 1)) := fun a b h => (r_common d _ _).trans (s_common _ a b h)
theorem a_fraction (d : Nat) : S_fraction (run prog (d + 2)) := fun a b h0 h => (r_fraction (d + 1) _ _).trans (s_fraction (a_common d) a b h0 h)
theorem a_lfraction (d : Nat) : S_lfraction (run prog (d + 1)) := fun a b h0 h => (r__law_fraction d _ _).trans (s_lfraction _ a b h0 h)
theorem a_plus (d : Nat) : S_add (run prog (d + 3)) "plus" := fun x y h => (r_plus (d + 2) _ _).trans (s_plus (a_fraction d) x y h)
theorem a_minus (d : Nat) : S_sub (run prog (d + 3)) "minus" := fun x y h => (r_minus (d + 2) _ _).trans (s_minus (a_fraction d) x y h)
theorem a_times (d : Nat) : S_mul (run prog (d + 3)) "times" := fun x y h => (r_times (d + 2) _ _).trans (s_times (a_fraction d) x y h)
theorem a_less (d : Nat) : S_lt (run prog (d + 1)) "less" := fun x y h => (r_less d _ _).trans (s_less _ x y h)
theorem a_sign (d : Nat) (x : Rat) : run prog (d + 1) "sign" [fr x] = sh (.int (sgn x)) := (r_sign d _).trans (s_sign _ x)
theorem a_bare (d : Nat) (x : Rat) : run prog (d + 1) "bare" [fr x] = sh (fr (ab x)) := (r_bare d _).trans (s_bare _ x)
theorem a_lplus (d : Nat) : S_add (run prog (d + 2)) "_law_plus" := fun x y h => (r__law_plus (d + 1) _ _).trans (s_lplus (a_lfraction d) x y h)
theorem a_lminus (d : Nat) : S_sub (run prog (d + 2)) "_law_minus" := fun x y h => (r__law_minus (d + 1) _ _).trans (s_lminus (a_lfraction d) x y h)
theorem a_ltimes (d : Nat) : S_mul (run prog (d + 2)) "_law_times" := fun x y h => (r__law_times (d + 1) _ _).trans (s_ltimes (a_lfraction d) x y h)
theorem a_lbefore (d : Nat) : S_lt (run prog (d + 1)) "_law_before" := fun x y h => (r__law_before d _ _).trans (s_lbefore _ x y h)
theorem a_lbare (d : Nat) (x : Rat) : run prog (d + 1) "_law_bare" [fr x] = sh (fr (ab x)) := (r__law_bare d _).trans (s_lbare _ x)
theorem sp : Sp (run prog 19) where
  cell := fun ns => (r__law_cell 18 _ _).trans (s_lcell _ ns)
  row := fun cell size base h1 h2 h3 => by
    obtain ⟨f, h, e⟩ := s_lrow (run prog 18) cell size base h1 h2 h3
    exact ⟨f, h, (r__law_row 18 _ _ _).trans e⟩
  frac := a_lfraction 18
  add := a_lplus 17
  sub := a_lminus 17
  mul := a_ltimes 17
  lt := a_lbefore 18
  isf := fun x h => (r__law_is_fraction 18 _).trans (s_lisfr (a_lfraction 17) (fun i => (r__law_is_integer 17 _).trans (s_lint _ i)) x h)
  tru := fun a b => (r__law_is_truth 18 _ _).trans (s_ltruth _ a b)
  swing := fun n c s w hn hs hw => (r_swing 18 _ _).trans (s_swing (a_bare 17) (a_plus 15) (a_times 15) hn hs hw)
  lswing := fun n c s w hn hs hw => (r__law_swing 18 _ _).trans (s_lswing (a_lbare 17) (a_lplus 16) (a_ltimes 16) hn hs hw)
  value := fun n c s t hn hc hs ht => (r__law_value 18 _ _).trans (s_lvalue (a_lplus 16) (a_ltimes 16) hn hc hs ht)
  corners := fun n t w z hn hz ht hw => (r__law_corners 18 _ _ _).trans (s_lcorners (a_lplus 16) (a_lminus 16) (a_ltimes 16) hn hz ht hw)
  ext := fun n c s t w z hn hz hc hs ht hw => (r_extremes 18 _ _ _ _).trans (s_extremes
    ((r_value 17 _ _).trans (s_value (a_plus 14) (a_times 14) hn hc hs fun k hk => by have := ht k hk; omega)) ((r_swing 17 _ _).trans (s_swing (a_bare 16) (a_plus 14) (a_times 14) hn hs fun k hk => by have := hw k hk; omega))
    (a_plus 15) (a_minus 15) (a_times 15) hn hz hc hs ht hw)
  corner := fun b n c s t w z hn hz hs ht hw => (r_corner_at 18 _ _ _ _ _).trans (s_corner (a_sign 17) (a_plus 15) (a_times 15) b hn hz hs ht hw)
  top := fun b up n c s t w z hu hn hz hs ht hw => (r__law_top 18 _ _ _ _ _).trans (s_ltop (a_lplus 16) (a_lminus 16) (a_ltimes 16) b up hu hn hz hs ht hw)
  inb := fun n t w z o hn hz ht hw ho => (r_in_box 18 _ _ _ _).trans (s_in (a_bare 17) (a_less 17) (a_minus 15) (a_times 15) hn hz ht hw ho)
  lin := fun n t w z o hn hz ht hw h0 ho => (r__law_inside 18 _ _ _ _).trans (s_lin (a_lbare 17) (a_lbefore 17) (a_lminus 16) (a_ltimes 16) hn hz ht hw h0 ho)
theorem law_true : ∀ ns : List Int, ns.length ≤ 63 → run prog 20 "law" [.lst (ns.map .int)] = some (.bl true, false) := fun ns _ => (r_law 19 _).trans (law_ok sp ns)
end K60


open PySem PySem.W PyProof.Rows
set_option maxRecDepth 100000 in
set_option maxHeartbeats 0 in
theorem PySem.Challenge.cw_trueshop_k60_boxes_of_values_holds : PySem.Challenge.rw_trueshop_k60_boxes_of_values.Holds := by
  w_on; o_law; k_head; (case hw => w_witness2)
  k_fill
  refine K60.walk (l := PySem.Challenge.rw_trueshop_k60_boxes_of_values) K60.law_true rfl rfl (fun w h Y => PySem.W.kIn_of Y) ?F
  case F =>
    intro w mg fa h KX G hmg
    refine' K60.fin hmg (K60.pg_ok (w := w) KX G ?a0 ?l0 ?c0 ?k0 ?a1 ?l1 ?c1 ?k1 ?t1 ?u1 ?a2 ?l2 ?c2 ?k2 ?a3 ?l3 ?c3 ?k3 ?a4 ?l4 ?c4 ?k4 ?a5 ?l5 ?c5 ?k5 ?a6 ?l6 ?c6 ?k6 ?a7 ?l7 ?c7 ?k7 ?a8 ?l8 ?c8 ?k8 ?a9 ?l9 ?c9 ?k9 ?a10 ?l10 ?c10 ?k10 ?a11 ?l11 ?c11 ?k11 ?g11 ?a12 ?l12 ?c12 ?k12 ?a13 ?l13 ?c13 ?k13 ?a14 ?l14 ?c14 ?k14 ?a15 ?l15 ?c15 ?k15 ?a16 ?l16 ?c16 ?k16 ?a17 ?l17 ?c17 ?k17 ?a18 ?l18 ?c18 ?k18 ?a19 ?l19 ?c19 ?k19 ?a20 ?l20 ?c20 ?k20 ?a21 ?l21 ?c21 ?k21 ?a22 ?l22 ?c22 ?k22 ?a23 ?l23 ?c23 ?k23 ?a24 ?l24 ?c24 ?k24 ?a25 ?l25 ?c25 ?k25 ?a26 ?l26 ?c26 ?k26 ?a27 ?l27 ?c27 ?k27 ?a28 ?l28 ?c28 ?k28 ?a29 ?l29 ?c29 ?k29 ?b_abs ?b_bool ?b_int ?b_isinstance ?b_len ?b_list ?b_range ?b_str ?b_tuple)
    (case a0 => k_is)
    (case l0 => k_is)
    (case c0 => k_is)
    (case k0 => k_is)
    (case a1 => k_is)
    (case l1 => k_is)
    (case c1 => k_is)
    (case k1 => k_is)
    (case t1 => k_is)
    (case u1 => rfl)
    (case a2 => k_is)
    (case l2 => k_is)
    (case c2 => k_is)
    (case k2 => k_is)
    (case a3 => k_is)
    (case l3 => k_is)
    (case c3 => k_is)
    (case k3 => k_is)
    (case a4 => k_is)
    (case l4 => k_is)
    (case c4 => k_is)
    (case k4 => k_is)
    (case a5 => k_is)
    (case l5 => k_is)
    (case c5 => k_is)
    (case k5 => k_is)
    (case a6 => k_is)
    (case l6 => k_is)
    (case c6 => k_is)
    (case k6 => k_is)
    (case a7 => k_is)
    (case l7 => k_is)
    (case c7 => k_is)
    (case k7 => k_is)
    (case a8 => k_is)
    (case l8 => k_is)
    (case c8 => k_is)
    (case k8 => k_is)
    (case a9 => k_is)
    (case l9 => k_is)
    (case c9 => k_is)
    (case k9 => k_is)
    (case a10 => k_is)
    (case l10 => k_is)
    (case c10 => k_is)
    (case k10 => k_is)
    (case a11 => k_is)
    (case l11 => k_is)
    (case c11 => k_is)
    (case k11 => k_is)
    (case g11 => k_is)
    (case a12 => k_is)
    (case l12 => k_is)
    (case c12 => k_is)
    (case k12 => k_is)
    (case a13 => k_is)
    (case l13 => k_is)
    (case c13 => k_is)
    (case k13 => k_is)
    (case a14 => k_is)
    (case l14 => k_is)
    (case c14 => k_is)
    (case k14 => k_is)
    (case a15 => k_is)
    (case l15 => k_is)
    (case c15 => k_is)
    (case k15 => k_is)
    (case a16 => k_is)
    (case l16 => k_is)
    (case c16 => k_is)
    (case k16 => k_is)
    (case a17 => k_is)
    (case l17 => k_is)
    (case c17 => k_is)
    (case k17 => k_is)
    (case a18 => k_is)
    (case l18 => k_is)
    (case c18 => k_is)
    (case k18 => k_is)
    (case a19 => k_is)
    (case l19 => k_is)
    (case c19 => k_is)
    (case k19 => k_is)
    (case a20 => k_is)
    (case l20 => k_is)
    (case c20 => k_is)
    (case k20 => k_is)
    (case a21 => k_is)
    (case l21 => k_is)
    (case c21 => k_is)
    (case k21 => k_is)
    (case a22 => k_is)
    (case l22 => k_is)
    (case c22 => k_is)
    (case k22 => k_is)
    (case a23 => k_is)
    (case l23 => k_is)
    (case c23 => k_is)
    (case k23 => k_is)
    (case a24 => k_is)
    (case l24 => k_is)
    (case c24 => k_is)
    (case k24 => k_is)
    (case a25 => k_is)
    (case l25 => k_is)
    (case c25 => k_is)
    (case k25 => k_is)
    (case a26 => k_is)
    (case l26 => k_is)
    (case c26 => k_is)
    (case k26 => k_is)
    (case a27 => k_is)
    (case l27 => k_is)
    (case c27 => k_is)
    (case k27 => k_is)
    (case a28 => k_is)
    (case l28 => k_is)
    (case c28 => k_is)
    (case k28 => k_is)
    (case a29 => k_is)
    (case l29 => k_is)
    (case c29 => k_is)
    (case k29 => k_is)
    (case b_abs => k_is)
    (case b_bool => k_is)
    (case b_int => k_is)
    (case b_isinstance => k_is)
    (case b_len => k_is)
    (case b_list => k_is)
    (case b_range => k_is)
    (case b_str => k_is)
    (case b_tuple => k_is)

