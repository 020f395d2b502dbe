import PyProof.Rows.All
import Wide.All
import OpenK.AllK
import Wide.FinOn
import HandS.ForMost
import HandS.Wide
import HandS.IsInst
import HandS.Defaults
import HandS.AnyAll
import HandS.GenList
import KE.KDictKeyed
import KE.KeyNested
import HandS.Style
import HandS.EndTab
import PySem.Challenge.RW_trueshop_k66_polygons_without_others
set_option Elab.async false
set_option linter.all false
set_option maxRecDepth 100000
set_option maxHeartbeats 4000000
/-! any, all of a generator expression whose element may call -/
namespace Pv
open PySem PySem.Spec PyProof.Rows L2

/-- the context of a generator's frame -/
abbrev gcx (X : Cx) (A : Around) (s : Shared) (H : Hp) (cenv : Env) (fp : List Addr) : Cx := { X with A := A, s_0 := s, H_0 := H, env := cenv, outer := X.stack, stack := cenv :: X.stack, ex := fp, fn := fun x => cenv.scope.names.lookup x == some .cell, pn := [], xe := fun _ _ => False }
/-- a generator's environment, captured names of its own among its names -/
abbrev genEnvC (scope : Scope) (cl : List (Str × Addr)) (C : Addr) (code : Value) (bi : Addr) (env : Env) : Env := newEnv scope C env.globals (cellsFrom (C + 1) scope.names cl) (env.qual ++ "<genexpr>.") none code none bi
section
variable {M : Model} {A : Around} {E : Value → Shared → Prop} {s : Shared}
theorem newEnv_gen {scope : Scope} {globals : Addr} {cl : List (Str × Addr)} {it : Value} {qual : Str} {code : Value} {bi : Addr} {Q : Env → Shared → Prop} (h0 : scope.names.lookup (".0" : Str) = some NameKind.local) (hk : scope.kind = .function)
    (hQ : ∀ (h' : Heap) (m : Str → Option Value), h'.Ns s.heap.objs.size m → Heap.SameBut s.heap.objs.size (pushCells (s.heap.push { cls := .type "frame", data := .dict #[] }) scope.names) h' →
      Q (newEnv scope s.heap.objs.size globals (cellsFrom (s.heap.objs.size + 1) scope.names cl) qual none code none bi) { s with heap := h', toks := s.toks + 1 }) :
    wpAny M A (newFunctionEnv scope globals cl [(".0", it)] qual none code none bi) Q E s := by
  simp only [newFunctionEnv, Option.isSome_none, Bool.false_eq_true, if_false]
  refine wpAny_bind (wpAny_alloc ?_)
  refine wpAny_bind (wpAny_layCells _ (fun name kind cells => by cases hkc : kind == NameKind.cell <;> simp [hkc]) _ _ _ _ ?_)
  rw [show ({ s with heap := s.heap.push { cls := .type "frame", data := .dict #[] } } : Shared).heap.objs.size = s.heap.objs.size + 1 from Heap.size_push ..]
  refine wpAny_bind ?_
  rw [List.forIn_cons]
  refine wpAny_bind (wpAny_bind (wpAny_storeName_local (m := fun _ => none) h0 ((Heap.Ns.new s.heap (.type "frame")).keeps (pushCells_keeps _ _)) (fun h' hn hs => ?_) ?_))
  · refine wpAny_pure ?_
    show wpAny M A (forIn [] _ _) _ _ _
    rw [List.forIn_nil]
    exact wpAny_pure (wpAny_pure (hQ h' _ hn hs))
  · show (scope.kind == .class || (scope.kind == .module && _)) = false
    rw [hk]; rfl
theorem gen_make {env : Env} {elt target iter : Expr} {ifs : List Expr} {scope : Scope} {cl : List (Str × Addr)} {pos : Pos} {Q : Value → Shared → Prop}
    (hco : scope.isCoroutine = false) (hclos : closureFor scope env = pure cl) (h0 : scope.names.lookup (".0" : Str) = some NameKind.local) (hkind : scope.kind = .function)
    (hroom : A.depth < recursionLimit)
    (h : wpAny M A (eval iter env) (fun xv s₁ => wpAny M A (pyIter xv) (fun it s₂ => s₂.heap.NoLimit ∧
      wpAny M A (genexprCode env pos (env.qual ++ "<genexpr>") scope) (fun code s₃ => wpAny M A (builtinsFor env.globals env.builtins) (fun bi s₄ =>
        ∀ (h' : Heap) (m : Str → Option Value), h'.Ns s₄.heap.objs.size m → Heap.SameBut s₄.heap.objs.size (pushCells (s₄.heap.push { cls := .type "frame", data := .dict #[] }) scope.names) h' → ∀ (t0 : Nat) (t1 t2 : Tok),
          Q (.ref h'.objs.size) { s₄ with
            gens := s₄.gens.push (.fresh (.compStart (.GeneratorExp elt [⟨target, iter, ifs, 0⟩] scope pos) 0 it .none (genEnvC scope cl s₄.heap.objs.size code bi env))),
            toks := t0,
            heap := h'.push { cls := .type "generator", data := .fields #[.int s₄.gens.size 0, .str "<genexpr>" t1, .str (env.qual ++ "<genexpr>") t2] } }) E s₃) E s₂) E s₁) E s)
    (hs : ∀ x, genFold iter env x = pure x) :
    wpAny M A (eval (.GeneratorExp elt [⟨target, iter, ifs, 0⟩] scope pos) env) Q E s := by
  rw [eval_GeneratorExp1 _ _ _ _ _ _ _ hco, hclos]
  refine wpAny_bind (wpAny_mono h (fun xv s₁ h₁ => ?_) fun _ _ e => e)
  refine wpAny_bind (wpAny_standAt ?_)
  refine wpAny_bind (wpAny_of_eq (hs xv) ?_)
  refine wpAny_bind (wpAny_holding (wpAny_mono h₁ (fun it s₂ h₂ => ?_) fun _ _ e => e))
  refine wpAny_bind (wpAny_enterFrame h₂.1 hroom ?_)
  refine wpAny_bind (wpAny_pure ?_)
  refine wpAny_bind (wpAny_mono h₂.2 (fun code s₃ h₃ => ?_) fun _ _ e => e)
  refine wpAny_bind (wpAny_mono h₃ (fun bi s₄ h₄ => ?_) fun _ _ e => e)
  refine wpAny_bind (newEnv_gen h0 hkind fun h' m hn' hs' => ?_)
  simp only [newGenerator, newFields]
  refine wpAny_bind (wpAny_newGen (wpAny_bind (wpAny_mkText (wpAny_bind (wpAny_mkText (wpAny_newObj_type ?_ (by size_fits)))))))
  exact h₄ h' m hn' hs' _ _ _
end
section
variable {X : Cx} {pins : List (Addr × Obj)} {σ : L2.St} {H : Hp} {s : Shared}
theorem gen_start {scope : Scope} {own : List (Str × Nat)} {A : Around} {code : Value} {h5 : Heap} {g5 : Array GenState} {t5 : Nat} {fp : List Addr} (I : Inv X pins σ H s) (ok : BlkOk X.N X.env.scope scope own) {m5 : Str → Option Value} (hN : X.N.Nodup)
    (hA : A.handled = none) (hfr : A.frames = some (genEnvC scope (cloFrom X.env.cells scope.names []) s.heap.objs.size code builtinsNs X.env :: X.stack)) (hfp : ∀ b ∈ fp, FpOk X pins H b ∧ b < s.heap.objs.size)
    (kc : ∀ b o, b ≠ s.heap.objs.size → (pushCells (s.heap.push { cls := .type "frame", data := .dict #[] }) scope.names).get? b = some o → h5.get? b = some o) (hn : h5.Ns s.heap.objs.size m5) (hg : AllBare g5) :
    Inv (gcx X A s H (genEnvC scope (cloFrom X.env.cells scope.names []) s.heap.objs.size code builtinsNs X.env) fp) [] (wipe σ (own.map (·.2))) H { s with heap := h5, gens := g5, toks := t5 } := by
  have hfree : ∀ y ∈ scope.names, y.2 = .free → ∃ c, X.env.cells.lookup y.1 = some c := fun y hy e => by
    rcases ok.free y hy e with k | k
    · exact I.ok.has _ (.inl k)
    · exact I.ok.has _ (.inr k)
  have kp : ∀ b o, s.heap.get? b = some o → h5.get? b = some o := fun b o e => kc b o (Nat.ne_of_lt (Heap.lt_size e)) (pushCells_keeps _ _ _ _ (Heap.get?_push_of_some _ e))
  generalize hcenv : genEnvC scope (cloFrom X.env.cells scope.names []) s.heap.objs.size code builtinsNs X.env = cenv at hfr ⊢
  have hL : cenv.locals = s.heap.objs.size := by rw [← hcenv]; rfl
  have hcl : cenv.cells = cellsFrom (s.heap.objs.size + 1) scope.names (cloFrom X.env.cells scope.names []) := by rw [← hcenv]; rfl
  have hsc : cenv.scope = scope := by rw [← hcenv]; rfl
  rw [← Heap.size_push s.heap { cls := .type "frame", data := .dict #[] }] at hcl
  have cm : ∀ {y c}, (y, c) ∈ cloFrom X.env.cells scope.names [] → X.env.cells.lookup y = some c ∧ c < s.heap.objs.size := fun {y c} hm => by
    rcases cloFrom_mem hm with hm | ⟨h1, rfl⟩
    · cases hm
    · obtain ⟨c, hc⟩ := hfree _ h1 rfl
      rw [hc]
      obtain ⟨w, z⟩ := I.cell _ _ hc
      exact ⟨rfl, z.lt⟩
  have mem : ∀ {y c}, cenv.cells.lookup y = some c → (X.env.cells.lookup y = some c ∧ c < s.heap.objs.size) ∨ (s.heap.objs.size + 1 ≤ c ∧ CellAt (pushCells (s.heap.push { cls := .type "frame", data := .dict #[] }) scope.names) c none) := fun {y c} e => by
    rw [hcl] at e
    rcases cells_mem (PySem.mem_of_lookup e) with hm | ⟨_, h2, h3⟩
    · exact .inl (cm hm)
    · rw [Heap.size_push] at h2; exact .inr ⟨h2, h3⟩
  have look : ∀ {y}, scope.names.lookup y = some .free → ∃ c, cenv.cells.lookup y = some c ∧ X.env.cells.lookup y = some c := fun {y} hl => by
    have hy : (y, NameKind.free) ∈ scope.names := PySem.mem_of_lookup hl
    obtain ⟨c', e'⟩ := mem_lookup (cells_acc (names := scope.names) (n := (s.heap.push { cls := .type "frame", data := .dict #[] }).objs.size) (cloFrom_has (cells := X.env.cells) (acc := []) hy))
    rw [← hcl] at e'
    refine ⟨c', e', ?_⟩
    rw [hcl] at e'
    rcases cells_mem (PySem.mem_of_lookup e') with hm | ⟨h1, _, _⟩
    · exact (cm hm).1
    · have := ok.uniq _ h1
      rw [hl] at this; cases this
  have okB : (gcx X A s H cenv fp).Ok := by
    refine ⟨I.ok.mod, by show cenv.scope.kind = _; rw [hsc]; exact ok.kind, by show cenv.globals = _; rw [← hcenv]; exact I.ok.glob, by show cenv.builtins = _; rw [← hcenv]; rfl, by show s.heap.objs.size ≤ cenv.locals; rw [hL]; exact Nat.le_refl _,
      fun y z c e1 e2 => ?_, fun y hy => ?_, fun y c z e => ?_, fun _ => hA, hfr, .inr ⟨rfl, by show cenv.frame = some cenv.locals; rw [← hcenv]; rfl⟩, fun b hb => ⟨?_, fun y c e z => ?_⟩, I.bs, Nat.le_trans I.ok.bsz I.sz, fun b o e hb => ?_, fun b hb z => ?_, I.stack, I.stkFree⟩
    · have e1 : cenv.cells.lookup y = some c := e1
      have e2 : cenv.cells.lookup z = some c := e2
      rw [hcl] at e1 e2
      refine cells_inj (fun p hp => ?_) (fun y z c a b => I.ok.inj y z c (cm a).1 (cm b).1) (PySem.mem_of_lookup e1) (PySem.mem_of_lookup e2)
      rw [Heap.size_push]
      exact Nat.lt_succ_of_lt (cm (y := p.1) (c := p.2) hp).2
    · show ∃ c, cenv.cells.lookup y = some c
      have key : ∀ k, cenv.kindOf y = some k → (k = .cell ∨ k = .free) → ∃ c, cenv.cells.lookup y = some c := fun k hk hk' => by
        unfold Env.kindOf at hk
        rw [hsc] at hk
        rcases hk' with rfl | rfl
        · obtain ⟨c, hm⟩ := cells_has (n := (s.heap.push { cls := .type "frame", data := .dict #[] }).objs.size) (acc := cloFrom X.env.cells scope.names []) (PySem.mem_of_lookup hk)
          obtain ⟨c', e'⟩ := mem_lookup hm
          exact ⟨c', by rw [hcl]; exact e'⟩
        · obtain ⟨c, h1, _⟩ := look hk
          exact ⟨c, h1⟩
      rcases hy with hy | hy
      · exact key _ hy (.inl rfl)
      · exact key _ hy (.inr rfl)
    · have z : (cenv.scope.names.lookup y == some NameKind.cell) = true := z
      rw [hsc] at z
      have z : scope.names.lookup y = some .cell := by simpa using z
      have e : cenv.cells.lookup y = some c := e
      rw [hcl] at e
      rcases cells_mem (PySem.mem_of_lookup e) with hm | ⟨_, h2, _⟩
      · rcases cloFrom_mem hm with hm | ⟨h1, _⟩
        · cases hm
        · have q := ok.uniq _ h1
          rw [z] at q; cases q
      · rw [Heap.size_push] at h2
        exact Nat.le_of_succ_le h2
    · show b ≠ cenv.locals
      rw [hL]; exact Nat.ne_of_lt (hfp b hb).2
    · have e : cenv.cells.lookup y = some c := e
      rcases mem e with ⟨h1, _⟩ | ⟨h1, _⟩
      · exact (hfp b hb).1.2.2.2.2.1 y c h1 z
      · have h2 : s.heap.objs.size + 1 ≤ b := by rw [← z]; exact h1
        exact absurd (Nat.lt_of_lt_of_le (hfp b hb).2 (Nat.le_of_succ_le h2)) (Nat.lt_irrefl _)
    · rcases (hfp b hb).1.2.2.2.1 with z | z
      · exact I.ok.noex b o e z
      · exact absurd (Nat.lt_of_lt_of_le (Heap.lt_size e) (Nat.le_trans I.ok.bsz z)) (Nat.lt_irrefl _)
    · rcases List.mem_cons.mp (I.stkSub b z) with z | z
      · exact (hfp b hb).1.2.1 z
      · exact (hfp b hb).1.2.2.1 z
  refine ⟨okB, rfl, hg, Un.kept kp, ⟨_, by show Heap.Ns _ cenv.locals _; rw [hL]; exact hn, fun i y av e1 e2 e3 => ?_⟩, fun y c e => ?_, ?_, fun y c e => ?_, fun p hp => ?_, I.hok.kept kp, by rw [wipe_length]; exact I.len⟩
  · obtain ⟨e2, hne⟩ := wipe_some e2
    have hfr : scope.names.lookup y = some .free ∧ (cenv.kindOf y = some .cell ∨ cenv.kindOf y = some .free) := by
      have key : ∀ k, cenv.scope.names.lookup y = some k → k = .local ∨ k = .cell ∨ k = .free → scope.names.lookup y = some .free ∧ (cenv.kindOf y = some .cell ∨ cenv.kindOf y = some .free) := fun k hk hk' => by
        have hk0 := hk
        rw [hsc] at hk
        have no : ¬ (k = .local ∨ k = .cell) := fun hh => by
          rcases ok.own _ (PySem.mem_of_lookup hk) hh with e' | e'
          · obtain ⟨p, hp, hpy⟩ := List.mem_map.mp e'
            have e3 := ok.ix p hp
            have : p.1 = y := hpy
            rw [this] at e3
            exact hne (List.mem_map.mpr ⟨p, hp, nodup_ix hN e3 e1⟩)
          · exact e' (List.mem_of_getElem? e1)
        rcases hk' with rfl | rfl | rfl
        · exact absurd (.inl rfl) no
        · exact absurd (.inr rfl) no
        · exact ⟨hk, .inr hk0⟩
      have e3 : Vis cenv.scope y := e3
      rcases e3 with e3 | e3 | e3
      · exact key _ e3 (.inl rfl)
      · exact key _ e3 (.inr (.inl rfl))
      · exact key _ e3 (.inr (.inr rfl))
    obtain ⟨m, hn, hl⟩ := I.loc
    have hvis : Vis X.env.scope y := (ok.free _ (PySem.mem_of_lookup hfr.1) rfl).elim (fun k => .inr (.inl k)) (fun k => .inr (.inr k))
    obtain ⟨w, r, q⟩ := hl i y av e1 e2 hvis
    refine ⟨w, r, .inr ⟨hfr.2, ?_⟩⟩
    obtain ⟨c, h1, h2⟩ := look hfr.1
    rcases q with ⟨k, _⟩ | ⟨_, c', e', z⟩
    · have k : X.env.scope.names.lookup y = some .local := k
      rcases ok.free _ (PySem.mem_of_lookup hfr.1) rfl with k' | k' <;> rw [show X.env.scope.names.lookup y = _ from k'] at k <;> cases k
    · rw [h2] at e'; cases e'
      exact ⟨c, h1, z.keeps kp⟩
  · have e : cenv.cells.lookup y = some c := e
    rcases mem e with ⟨h1, _⟩ | ⟨h1, z⟩
    · obtain ⟨w, z⟩ := I.cell y c h1
      exact ⟨w, z.keeps kp⟩
    · obtain ⟨o, z1, z2⟩ := z
      exact ⟨_, o, kc c o (fun q => by have q' : (c : Nat) = s.heap.objs.size := q; have h1' : s.heap.objs.size + 1 ≤ (c : Nat) := h1; omega) z1, z2⟩
  · show H cenv.locals = none
    rw [hL]; exact I.hok.fresh (Nat.le_refl _)
  · have e : cenv.cells.lookup y = some c := e
    rcases mem e with ⟨h1, _⟩ | ⟨h1, _⟩
    · exact I.freeC y c h1
    · exact I.hok.fresh (Nat.le_of_succ_le h1)
  · exact absurd (show p ∈ ([] : List (Addr × Obj)) ++ [] from hp) (by simp)
end

theorem Inv.same {X : Cx} {pins : List (Addr × Obj)} {σ : L2.St} {H : Hp} {s s' : Shared} (I : Inv X pins σ H s) (ho : s'.os = s.os) (hh : s'.heap = s.heap) (hg : AllBare s'.gens) : Inv X pins σ H s' := by
  obtain ⟨h', g', d', t', o'⟩ := s'
  have e1 : h' = s.heap := hh
  have e2 : o' = s.os := ho
  subst e1 e2
  exact ⟨I.ok, I.os, hg, I.base, I.loc, I.cell, I.free, I.freeC, I.pin, I.hok, I.len⟩
/-- a truth is handed out: the consumer stops at sv, else it asks again -/
def GYd (sv : Bool) (a : Addr) (g : Nat) (Fin : Shared → Prop) : Protocol := fun n s₀ v s kap =>
  s.heap.IsGen a g ∧ s.heap.NoLimit ∧ AllBare s.gens ∧ ∃ b, v = .bool b ∧ if b = sv then Fin s else ∀ s' : Shared, s'.os = s.os → s'.heap = s.heap → AllBare s'.gens → kap (.send .none) s'
abbrev GEd (Fin : Shared → Prop) : GenEnd := fun n s₀ r s₁ => r = .ok .next ∧ (Fin s₁ ∧ AllBare s₁.gens)

section
variable {X : Cx} {tg elt iter : Expr} {scope : Scope} {pos : Pos} {it a : Addr} {fp : List Addr} {tn : Nat → Heap → Prop} {J : It} {A : Around} {sv : Bool} {g : Nat} {gob : Obj} {σ : L2.St} {vs : List Nat} {gg : TG} {te : TE} {Qs Qe : Hp → Prop} {W : Nat → Nat → Hp → Prop}
theorem seg_all (T : Turn X.prog X.w X.K tg J fp it tn) (hc : X.calm = true) (hov : A.over (.compLoop (.GeneratorExp elt [⟨tg, iter, [], 0⟩] scope pos) 0 (.ref it) .none X.env) [] = X.A) (hex : X.ex = fp) (hpn : X.pn = []) (hxe : X.xe = fun _ _ => False)
    (hco : X.env.scope.isCoroutine = false) (haf : a ∉ fp) (hgen : ∀ h : Heap, h.get? a = some gob → h.IsGen a g) (hg : PG X tg gg) (he : PE X elt te)
    (turn : ∀ i m H, W i m H → (J.stop i H ∧ Qe H) ∨ (J.go i H ∧ ∃ Nx : Hp → Prop, (∀ H', Nx H' → ∃ m', m' < m ∧ W (i + 1) m' H') ∧ ∀ x H', J.yld i H x H' → gg x (wipe σ vs) H' fun σ2 H2 => wipe σ2 vs = wipe σ vs ∧ te σ2 H2 fun v H4 => ∃ b, v = .bl b ∧ if b = sv then Qs H4 else Nx H4)) :
    ∀ (m n : Nat) (s₀ : Shared) (i : Nat) (H : Hp) (s : Shared), m < n → W i m H → Inv X [(a, gob)] (wipe σ vs) H s → tn i s.heap → (∀ b ∈ fp, H b = none) →
      Seg (model X.prog X.w) A (GEd fun s => ∃ σ' H', Inv X [(a, gob)] σ' H' s ∧ Qe H') (GYd sv a g fun s => ∃ σ' H', Inv X [(a, gob)] σ' H' s ∧ Qs H') n s₀
        (.compLoop (.GeneratorExp elt [⟨tg, iter, [], 0⟩] scope pos) 0 (.ref it) .none X.env)
        ((model X.prog X.w).den (.compLoop (.GeneratorExp elt [⟨tg, iter, [], 0⟩] scope pos) 0 (.ref it) .none X.env)) [] s := by
  have stat : ∀ {σ' : L2.St} {H' : Hp} {s' : Shared}, Inv X [(a, gob)] σ' H' s' → (∀ b ∈ fp, H' b = none) → ∀ b ∈ fp, FpOk X [(a, gob)] H' b := fun {σ' H' s'} I' hn b hb =>
    ⟨hn b hb, (I'.ok.exf b (by rw [hex]; exact hb)).1, I'.ok.exfs b (by rw [hex]; exact hb), .inl (by rw [hex]; exact hb), fun x c e => (I'.ok.exf b (by rw [hex]; exact hb)).2 x c e, fun p hp => by
      rw [hpn] at hp
      have : p = (a, gob) := by simpa using hp
      rw [this]
      exact fun z => haf (by have z' : a = b := z; rw [z']; exact hb)⟩
  intro m
  induction m using Nat.strongRecOn with
  | _ m ih =>
  intro n s₀ i H s hmn w I st hn
  obtain ⟨n, rfl⟩ : ∃ k, n = k + 1 := ⟨n - 1, by omega⟩
  show Seg _ A _ _ _ s₀ _ ((compTurn (.GeneratorExp elt [⟨tg, iter, [], 0⟩] scope pos) 0 (.ref it) .none X.env).onRaise (leaving X.env)) [] s
  rw [compTurn_gen, Sem.onRaise_eq_wrap]
  refine seg_bind_wrap (wpAny_standAt ?_)
  rcases turn i m H w with ⟨stop, qe⟩ | ⟨go, Nx, hNx, step⟩
  · refine seg_bind_wrap ?_
    rw [hov]
    refine thnF (T.done X rfl rfl rfl hc i [(a, gob)] s _ H (fun _ _ => False) I (stat I hn) st stop) fun r s1 ⟨hr, I1⟩ => ?_
    subst hr
    exact seg_end (.ok .next) ⟨rfl, ⟨_, H, I1, qe⟩, I1.bare⟩
  · refine seg_bind_wrap ?_
    rw [hov]
    refine thnF (T.item X rfl rfl rfl hc i [(a, gob)] s _ H (fun _ _ => False) I (stat I hn) st go) fun r s1 ⟨u, hr, h1⟩ => ?_
    subst hr
    refine seg_bind_wrap ?_
    rw [hov]
    refine thnF h1 fun _ s2 ⟨x, H2, I2, r2, y2, st2, n2⟩ => ?_
    have I2' := I2.pinned (stat I2 n2) (T.obj _ _ st2)
    refine seg_bind_wrap ?_
    rw [hov]
    have pg := hg.run _ s2 _ H2 x u _ I2' r2 (step x H2 y2)
    rw [hxe] at pg
    refine thnF pg fun _ s3 ⟨σ3, H3, I3, hw3, q3⟩ => ?_
    have hy : ∀ v, yieldOut X.env v = yieldValue v := fun v => by simp only [yieldOut, hco, Bool.false_eq_true, if_false]
    simp only [hy, List.forIn_nil]
    refine seg_bind_wrap (wpAny_pure ?_)
    simp only [if_true]
    rw [Sem.bind_eq_wrap', Sem.bind_eq_wrap', Sem.wrap_wrap, Sem.wrap_wrap]
    refine seg_wrap ?_
    rw [hov]
    have pe := he.run _ s3 σ3 H3 _ I3 q3
    rw [hxe] at pe
    refine thnF pe fun v s4 ⟨vv, H4, I4, r4, b, eb, q4⟩ => ?_
    subst eb
    obtain rfl : v = Value.bool b := r4
    have pa : s4.heap.get? a = some gob := (I4.pin (a, gob) (List.mem_append_right _ (List.mem_append_left _ (List.mem_singleton.mpr rfl)))).1
    have I4' : Inv X [(a, gob)] σ3 H4 s4 := I4.pins_of fun p hp => I4.pin p (List.mem_append_right _ (List.mem_append_left _ hp))
    refine seg_at (seg_yield rfl rfl rfl ⟨hgen _ pa, I4.nolimit, I4.bare, b, rfl, ?_⟩)
    by_cases hb : b = sv
    · rw [if_pos hb] at q4 ⊢
      exact ⟨σ3, H4, I4', q4⟩
    · rw [if_neg hb] at q4 ⊢
      intro s5 os5 h5 b5
      obtain ⟨m', hm, w'⟩ := hNx H4 q4
      have pin' : ∀ b ∈ fp, ∀ o, s2.heap.get? b = some o → s4.heap.get? b = some o ∧ H4 b = none := fun b hb o e =>
        let z := I4.pin (b, o) (List.mem_append_right _ (List.mem_append_right _ (mem_pinsAt hb e)))
        ⟨z.1, z.2.1⟩
      have hl : (wipe σ vs).length = σ3.length := by rw [← hw3, wipe_length]
      have I5 : Inv X [(a, gob)] (wipe σ vs) H4 s4 := I4'.weak hl (fun j v e => by rw [← hw3] at e; exact (wipe_some e).1)
      refine seg_again rfl (ih m' hm n s5 (i + 1) H4 s5 (by omega) w' (Inv.same I5 os5 h5 b5) (T.keep _ _ _ st2 fun b hb o e => by rw [h5]; exact (pin' b hb o e).1) fun b hb => ?_)
      obtain ⟨o, e, _⟩ := T.obj _ _ st2 b hb
      exact (pin' b hb o e).2
end

section
variable {P : Program} {w : World} {A : Around} {a : Addr} {g : Nat} {Fin Fin' : Shared → Prop} {R : Result → Shared → Prop}
open GenW
theorem drain_all (hh : A.handled = none) (hd : A.depth < recursionLimit)
    (hF : ∀ s s' : Shared, s'.os = s.os → s'.heap = s.heap → AllBare s'.gens → Fin s → Fin s') (hF' : ∀ s s' : Shared, s'.os = s.os → (∀ b o, s.heap.get? b = some o → s'.heap.get? b = some o) → AllBare s'.gens → Fin' s → Fin' s')
    (hs : ∀ s', Fin s' → R (.ok (.ret (.bool false))) s') (he : ∀ s', Fin' s' → R (.ok (.ret (.bool true))) s') :
    ∀ (m : Nat) (s : Shared), s.heap.IsGen a g → s.heap.NoLimit → AllBare s.gens →
      (∃ gs, s.gens[g]? = some gs ∧ gs.Goes (model P w) A.in1.in1 (GEd Fin') (GYd false a g Fin) m (.send .none) (s.setGen g .running)) →
      codeAny (model P w) A (.builtin "all.loop" ⟨[.ref a], []⟩) R s := by
  intro m
  induction m with
  | zero =>
    intro s hg hl hb ⟨gs, hgs, hgo⟩
    refine codeAny_builtin F.entry_all_loop ?_
    rw [Around.under_plainId F.plain_all_loop _]
    show wpAny _ A.in1 (pyNext (.ref a) >>= _) _ _ s
    refine wpAny_bind (wpAny_pyNext_genexpQ (A := A.in1) (P := fun _ _ s₁ => Fin' s₁ ∧ AllBare s₁.gens) hh hl hd hg hgs hgo (fun v s₁ gs' hbare hv => ?_) (fun s₁ hp h' hk => ?_))
    · obtain ⟨hg1, hl1, hb1, b, rfl, hc⟩ := hv
      refine wpAny_bind (wpAny_holding (wpAny_truthy_bool ?_))
      refine wpAny_bind (wpAny_letGo ?_)
      cases b with
      | false =>
        simp only [Bool.false_eq_true, if_false, if_true] at hc ⊢
        refine wpAny_bind (wpAny_rule (wpAny_pure ?_))
        exact hs _ (hF s₁ (s₁.setGen g gs') rfl rfl (allBare_setGen hb1 hbare) hc)
      | true =>
        rw [if_neg (by decide)] at hc
        exact False.elim (hc s₁ rfl rfl hb1)
    · refine wpAny_bind (wpAny_rule (wpAny_pure ?_))
      exact he _ (hF' s₁ _ rfl hk (allBare_setGen hp.2 rfl) hp.1)
  | succ m ih =>
    intro s hg hl hb ⟨gs, hgs, hgo⟩
    have hgl : g < s.gens.size := (Array.getElem?_eq_some_iff.mp hgs).1
    refine codeAny_builtin F.entry_all_loop ?_
    rw [Around.under_plainId F.plain_all_loop _]
    show wpAny _ A.in1 (pyNext (.ref a) >>= _) _ _ s
    refine wpAny_bind (wpAny_gsz (n := g + 1) hgl (wpAny_pyNext_genexpQ (A := A.in1) (P := fun _ _ s₁ => Fin' s₁ ∧ AllBare s₁.gens) hh hl hd hg hgs hgo (fun v s₁ gs' hbare hv => ?_) (fun s₁ hp h' hk => ?_)))
    · intro hsz
      obtain ⟨hg1, hl1, hb1, b, rfl, hc⟩ := hv
      refine wpAny_bind (wpAny_holding (wpAny_truthy_bool ?_))
      refine wpAny_bind (wpAny_letGo ?_)
      cases b with
      | false =>
        simp only [Bool.false_eq_true, if_false, if_true] at hc ⊢
        refine wpAny_bind (wpAny_rule (wpAny_pure ?_))
        exact hs _ (hF s₁ (s₁.setGen g gs') rfl rfl (allBare_setGen hb1 hbare) hc)
      | true =>
        rw [if_neg (by decide)] at hc
        simp only [if_true]
        have hsz1 : g < s₁.gens.size := by
          have q : (s₁.setGen g gs').gens.size = s₁.gens.size := setGen_size _ _ _
          have hsz' : g + 1 ≤ (s₁.setGen g gs').gens.size := hsz
          omega
        refine wpAny_pure ⟨plainId_quiet F.plain_all_loop _, ih (s₁.setGen g gs') hg1 hl1 (allBare_setGen hb1 hbare) ⟨gs', setGen_at hsz1, ?_⟩⟩
        exact hc _ rfl rfl (allBare_setGen (s := s₁.setGen g gs') (allBare_setGen hb1 hbare) rfl)
    · intro hsz
      refine wpAny_bind (wpAny_rule (wpAny_pure ?_))
      exact he _ (hF' s₁ _ rfl hk (allBare_setGen hp.2 rfl) hp.1)
theorem drain_any (hh : A.handled = none) (hd : A.depth < recursionLimit)
    (hF : ∀ s s' : Shared, s'.os = s.os → s'.heap = s.heap → AllBare s'.gens → Fin s → Fin s') (hF' : ∀ s s' : Shared, s'.os = s.os → (∀ b o, s.heap.get? b = some o → s'.heap.get? b = some o) → AllBare s'.gens → Fin' s → Fin' s')
    (hs : ∀ s', Fin s' → R (.ok (.ret (.bool true))) s') (he : ∀ s', Fin' s' → R (.ok (.ret (.bool false))) s') :
    ∀ (m : Nat) (s : Shared), s.heap.IsGen a g → s.heap.NoLimit → AllBare s.gens →
      (∃ gs, s.gens[g]? = some gs ∧ gs.Goes (model P w) A.in1.in1 (GEd Fin') (GYd true a g Fin) m (.send .none) (s.setGen g .running)) →
      codeAny (model P w) A (.builtin "any.loop" ⟨[.ref a], []⟩) R s := by
  intro m
  induction m with
  | zero =>
    intro s hg hl hb ⟨gs, hgs, hgo⟩
    refine codeAny_builtin F.entry_any_loop ?_
    rw [Around.under_plainId F.plain_any_loop _]
    show wpAny _ A.in1 (pyNext (.ref a) >>= _) _ _ s
    refine wpAny_bind (wpAny_pyNext_genexpQ (A := A.in1) (P := fun _ _ s₁ => Fin' s₁ ∧ AllBare s₁.gens) hh hl hd hg hgs hgo (fun v s₁ gs' hbare hv => ?_) (fun s₁ hp h' hk => ?_))
    · obtain ⟨hg1, hl1, hb1, b, rfl, hc⟩ := hv
      refine wpAny_bind (wpAny_holding (wpAny_truthy_bool ?_))
      refine wpAny_bind (wpAny_letGo ?_)
      cases b with
      | true =>
        simp only [if_true] at hc ⊢
        refine wpAny_bind (wpAny_rule (wpAny_pure ?_))
        exact hs _ (hF s₁ (s₁.setGen g gs') rfl rfl (allBare_setGen hb1 hbare) hc)
      | false =>
        rw [if_neg (by decide)] at hc
        exact False.elim (hc s₁ rfl rfl hb1)
    · refine wpAny_bind (wpAny_rule (wpAny_pure ?_))
      exact he _ (hF' s₁ _ rfl hk (allBare_setGen hp.2 rfl) hp.1)
  | succ m ih =>
    intro s hg hl hb ⟨gs, hgs, hgo⟩
    have hgl : g < s.gens.size := (Array.getElem?_eq_some_iff.mp hgs).1
    refine codeAny_builtin F.entry_any_loop ?_
    rw [Around.under_plainId F.plain_any_loop _]
    show wpAny _ A.in1 (pyNext (.ref a) >>= _) _ _ s
    refine wpAny_bind (wpAny_gsz (n := g + 1) hgl (wpAny_pyNext_genexpQ (A := A.in1) (P := fun _ _ s₁ => Fin' s₁ ∧ AllBare s₁.gens) hh hl hd hg hgs hgo (fun v s₁ gs' hbare hv => ?_) (fun s₁ hp h' hk => ?_)))
    · intro hsz
      obtain ⟨hg1, hl1, hb1, b, rfl, hc⟩ := hv
      refine wpAny_bind (wpAny_holding (wpAny_truthy_bool ?_))
      refine wpAny_bind (wpAny_letGo ?_)
      cases b with
      | true =>
        simp only [if_true] at hc ⊢
        refine wpAny_bind (wpAny_rule (wpAny_pure ?_))
        exact hs _ (hF s₁ (s₁.setGen g gs') rfl rfl (allBare_setGen hb1 hbare) hc)
      | false =>
        rw [if_neg (by decide)] at hc
        simp only [Bool.false_eq_true, if_false]
        have hsz1 : g < s₁.gens.size := by
          have q : (s₁.setGen g gs').gens.size = s₁.gens.size := setGen_size _ _ _
          have hsz' : g + 1 ≤ (s₁.setGen g gs').gens.size := hsz
          omega
        refine wpAny_pure ⟨plainId_quiet F.plain_any_loop _, ih (s₁.setGen g gs') hg1 hl1 (allBare_setGen hb1 hbare) ⟨gs', setGen_at hsz1, ?_⟩⟩
        exact hc _ rfl rfl (allBare_setGen (s := s₁.setGen g gs') (allBare_setGen hb1 hbare) rfl)
    · intro hsz
      refine wpAny_bind (wpAny_rule (wpAny_pure ?_))
      exact he _ (hF' s₁ _ rfl hk (allBare_setGen hp.2 rfl) hp.1)
end

/-- the table at P has grown -/
def TabX (P : Addr) (H H' : Hp) : Prop := ∃ ps more, H P = some (.tbl ps) ∧ TriplesOk (ps ++ more).toList ∧ H' = upd H P (.tbl (ps ++ more))
/-- any (sv = true), all (sv = false) of a generator expression: the table at P may have grown; W by the turn and a measure -/
def tGx (sv : Bool) (P : Addr) (wi : TI) (gg : TG) (te : TE) (vs : List Nat) : TE := fun σ H Q => wi σ H fun J H1 => GxR.TabG H1 P ∧ ∀ H2, TabX P H1 H2 → ∃ W : Nat → Nat → Hp → Prop, (∃ m, W 0 m H2) ∧ ∀ i m H, W i m H →
  (J.stop i H ∧ Q (.bl (!sv)) H) ∨ (J.go i H ∧ ∃ Nx : Hp → Prop, (∀ H', Nx H' → ∃ m', m' < m ∧ W (i + 1) m' H') ∧ ∀ x H', J.yld i H x H' → gg x (wipe σ vs) H' fun σ2 H2 => wipe σ2 vs = wipe σ vs ∧ te σ2 H2 fun v H4 => ∃ b, v = .bl b ∧ if b = sv then Q (.bl sv) H4 else Nx H4)
section
variable {X : Cx} {pins : List (Addr × Obj)} {σ : L2.St} {H : Hp} {s : Shared} {tg elt iter : Expr} {scope : Scope} {own : List (Str × Nat)} {gpos : Pos} {wi : TI} {gg : TG} {te : TE} {c P : Addr} {k : Nat} {sv : Bool} {Q : VK}
open GenW
/-- the generator stands, not begun -/
def GMd (X : Cx) (pins : List (Addr × Obj)) (σ : L2.St) (sv : Bool) (Q : VK) (u : Value) (s6 : Shared) : Prop :=
  ∃ (a : Addr) (g : Nat) (Fin Fin' : Shared → Prop), u = .ref a ∧ s6.heap.IsGen a g ∧ s6.heap.NoLimit ∧ AllBare s6.gens ∧
    (∀ s s' : Shared, s'.os = s.os → s'.heap = s.heap → AllBare s'.gens → Fin s → Fin s') ∧ (∀ s s' : Shared, s'.os = s.os → (∀ b o, s.heap.get? b = some o → s'.heap.get? b = some o) → AllBare s'.gens → Fin' s → Fin' s') ∧
    (∀ s', Fin s' → EP X pins σ Q (.bool sv) s') ∧ (∀ s', Fin' s' → EP X pins σ Q (.bool (!sv)) s') ∧
    ∃ m gs, s6.gens[g]? = some gs ∧ gs.Goes (model X.prog X.w) X.A.in1.in1 (GEd Fin') (GYd sv a g Fin) m (.send .none) (s6.setGen g .running)
theorem gen_made (hr : Room (k + 1) X.A) (hc : X.calm = true) (hN : X.N.Nodup) (TB : GxR.TabB X.base X.mg c P) (hcode : X.env.code = .ref c) (ok : BlkOk X.N X.env.scope scope own) (hco : scope.isCoroutine = false) (hdot : scope.names.lookup (".0" : Str) = some NameKind.local)
    (hi : PI X tg iter wi) (hgg : ∀ (A' : Around) (s : Shared) (H : Hp) (cenv : Env) (fp : List Addr), cenv.scope = scope → Room k A' → PG (gcx X A' s H cenv fp) tg gg) (he : ∀ (A' : Around) (s : Shared) (H : Hp) (cenv : Env) (fp : List Addr), cenv.scope = scope → Room k A' → PE (gcx X A' s H cenv fp) elt te)
    (hs : ∀ v, genFold iter X.env v = pure v) (I : Inv X pins σ H s) (h : tGx sv P wi gg te (own.map (·.2)) σ H Q) :
    wpAny (model X.prog X.w) X.A (eval (.GeneratorExp elt [⟨tg, iter, [], 0⟩] scope gpos) X.env) (GMd X pins σ sv Q) X.xe s := by
  have hfree : ∀ y ∈ scope.names, y.2 = .free → ∃ c, X.env.cells.lookup y.1 = some c := fun y hy e => by
    rcases ok.free y hy e with k | k
    · exact I.ok.has _ (.inl k)
    · exact I.ok.has _ (.inr k)
  refine gen_make hco (closure_ok hfree) hdot ok.kind (by have := hr.dp; omega) ?_ hs
  refine thn (hi.run pins s σ H _ I h) fun xv s1 hx => thn hx fun itv s2 h2 => ?_
  obtain ⟨it, fp, tn, J, H2, e, I2, T, st2, f2, ⟨ps, hP, ht⟩, q⟩ := h2
  subst e
  have hPs : s2.heap.get? P = some { cls := .none, data := .fields ps } := I2.hok P _ hP
  have sz : ∀ b ∈ fp, b < s2.heap.objs.size := fun b hb => by
    obtain ⟨o, e, _⟩ := T.obj _ _ st2 b hb
    exact Heap.lt_size e
  have nPfp : ∀ b ∈ fp, b ≠ P := fun b hb z => by
    have := (f2 b hb).1
    rw [z, hP] at this
    cases this
  have cd : PySem.W.CodeHd s2.heap c P := TB.code.keeps fun b u e => I2.bk b u e
  have cont : ∀ (code : Value) (h3 : Heap) (tk : Nat) (ps' : Array Value), Heap.ExtBut P s2.heap h3 → h3.get? P = some { cls := .none, data := .fields ps' } → (∃ more, ps' = ps ++ more) → TriplesOk ps'.toList →
      wpAny (model X.prog X.w) X.A (builtinsFor X.env.globals X.env.builtins) (fun bi s₄ =>
        ∀ (h' : Heap) (m5 : Str → Option Value), h'.Ns s₄.heap.objs.size m5 → Heap.SameBut s₄.heap.objs.size (pushCells (s₄.heap.push { cls := .type "frame", data := .dict #[] }) scope.names) h' → ∀ (t0 : Nat) (t1 t2 : Tok),
          GMd X pins σ sv Q (.ref h'.objs.size) { s₄ with
            gens := s₄.gens.push (.fresh (.compStart (.GeneratorExp elt [⟨tg, iter, [], 0⟩] scope gpos) 0 (.ref it) .none (genEnvC scope (cloFrom X.env.cells scope.names []) s₄.heap.objs.size code bi X.env))),
            toks := t0,
            heap := h'.push { cls := .type "generator", data := .fields #[.int s₄.gens.size 0, .str "<genexpr>" t1, .str (X.env.qual ++ "<genexpr>") t2] } }) X.xe { s2 with heap := h3, toks := tk } := by
    intro code h3 tk ps' hx hP3 hmore ht3
    obtain ⟨bm, ob, e1, e2, e3, e4, e5, e6, e7, e8⟩ := TB.bm
    have keep3 : ∀ b u, b ≠ P → s2.heap.get? b = some u → h3.get? b = some u := fun b u hb e => hx b u hb e
    refine wpAny_builtinsFor (m := X.mg) (by rw [I2.ok.glob]; exact (I2.mod.glob.keeps I2.bk).extBut hx TB.gP) e1 e2 (keep3 _ _ e4 (I2.bk _ _ e5)) e6 e7 e8 ?_
    intro h' m5 hns hsame t0 t1 t2
    obtain ⟨more, em⟩ := hmore
    have J4 : Inv X pins σ (upd H2 P (.tbl (ps ++ more))) { s2 with heap := h3, toks := tk } :=
      GxR.inv_tab (more := more) (h' := h3) (g' := s2.gens) (d' := s2.drawn) (t' := tk) I2 hP (fun b u hb e => keep3 b u hb e) (by rw [← em]; exact hP3) I2.bare
    generalize hs4 : ({ s2 with heap := h3, toks := tk } : Shared) = s4 at J4 hns hsame ⊢
    have h4 : s4.heap = h3 := by rw [← hs4]
    obtain ⟨W, ⟨m0, w0⟩, turn⟩ := q _ ⟨ps, more, hP, by rw [← em]; exact ht3, rfl⟩
    generalize hH4 : upd H2 P (.tbl (ps ++ more)) = H4 at J4 w0
    have hfpH : ∀ b ∈ fp, H4 b = none := fun b hb => by rw [← hH4, upd_ne (nPfp b hb)]; exact (f2 b hb).1
    have sz4 : ∀ b ∈ fp, b < s4.heap.objs.size := fun b hb => by
      obtain ⟨o, e, _⟩ := T.obj _ _ st2 b hb
      rw [h4]
      exact Heap.lt_size (keep3 b o (nPfp b hb) e)
    have f4 : ∀ b ∈ fp, FpOk X pins H4 b ∧ b < s4.heap.objs.size := fun b hb => ⟨⟨hfpH b hb, (f2 b hb).2⟩, sz4 b hb⟩
    have hsz : s4.heap.objs.size + 1 ≤ h'.objs.size := by rw [hsame.1, ← Heap.size_push s4.heap { cls := .type "frame", data := .dict #[] }]; exact pushCells_size _ _
    have keepc : ∀ b o, b ≠ s4.heap.objs.size → (pushCells (s4.heap.push { cls := .type "frame", data := .dict #[] }) scope.names).get? b = some o → h'.get? b = some o := fun b o hb e => hsame.extBut b o hb e
    have keep' : ∀ b o, s4.heap.get? b = some o → h'.get? b = some o := fun b o e => keepc b o (Nat.ne_of_lt (Heap.lt_size e)) (pushCells_keeps _ _ _ _ (Heap.get?_push_of_some _ e))
    generalize hgob : ({ cls := .type "generator", data := .fields #[.int s4.gens.size 0, .str "<genexpr>" t1, .str (X.env.qual ++ "<genexpr>") t2] } : Obj) = gob
    have keep5 : ∀ b o, s4.heap.get? b = some o → (h'.push gob).get? b = some o := fun b o e => Heap.get?_push_of_some _ (keep' b o e)
    have hgen : ∀ hh : Heap, hh.get? h'.objs.size = some gob → hh.IsGen h'.objs.size s4.gens.size := fun hh e => by
      rw [← hgob] at e
      exact ⟨_, _, _, e, rfl, rfl, rfl⟩
    have ga : (h'.push gob).get? h'.objs.size = some gob := Heap.get?_push_size _ (by rw [← hgob]; rfl)
    generalize hce : genEnvC scope (cloFrom X.env.cells scope.names []) s4.heap.objs.size code builtinsNs X.env = ce
    generalize hcode2 : (Code.compLoop (.GeneratorExp elt [⟨tg, iter, [], 0⟩] scope gpos) 0 (.ref it) .none ce) = cl
    have hA : (X.A.in1.in1.over cl []).handled = none := by rw [← hcode2]; exact hr.hd
    have hfr : (X.A.in1.in1.over cl []).frames = some (ce :: X.stack) := by
      rw [← hcode2]
      show pushEnvs [ce] (pushEnvs [] X.A.frames) = _
      rw [I.ok.frames]
      rfl
    have hroom : Room k (X.A.in1.in1.over cl []) := by
      rw [← hcode2]
      refine ⟨hr.hd, ?_, ?_⟩
      · have := hr.dp
        show X.A.depth + 0 + 1 + 3 * k + 5 < recursionLimit
        omega
      · have := hr.un
        show X.A.units + 1 + 1 + 0 + 3 + 16 * k + 200 < cLine
        omega
    have I5 : Inv (gcx X (X.A.in1.in1.over cl []) s4 H4 ce fp) [] (wipe σ (own.map (·.2))) H4 { s4 with heap := h'.push gob, gens := s4.gens.push (.fresh (.compStart (.GeneratorExp elt [⟨tg, iter, [], 0⟩] scope gpos) 0 (.ref it) .none ce)), toks := t0 } := by
      rw [← hce] at hfr ⊢
      exact gen_start J4 ok hN hA hfr f4 (fun b o hb e => Heap.get?_push_of_some _ (keepc b o hb e)) (hns.push _) (J4.bare.push rfl)
    have cL : ce.locals = s4.heap.objs.size := by rw [← hce]; rfl
    have haf : h'.objs.size ∉ fp := fun hm => by have : (h'.objs.size : Nat) < s4.heap.objs.size := sz4 _ hm; omega
    have I5' : Inv (gcx X (X.A.in1.in1.over cl []) s4 H4 ce fp) [(h'.objs.size, gob)] (wipe σ (own.map (·.2))) H4 { s4 with heap := h'.push gob, gens := s4.gens.push (.fresh (.compStart (.GeneratorExp elt [⟨tg, iter, [], 0⟩] scope gpos) 0 (.ref it) .none ce)), toks := t0 } :=
      I5.pins_of fun p hp => by
        rw [List.mem_singleton.mp hp]
        refine ⟨ga, J4.hok.fresh (by omega), by show h'.objs.size ≠ ce.locals; rw [cL]; exact fun z => by have z' : (h'.objs.size : Nat) = s4.heap.objs.size := z; omega, fun hm => ?_, fun v z => ?_⟩
        · obtain ⟨_, o, ho, _⟩ := J4.stack.mem hm
          have : (h'.objs.size : Nat) < s4.heap.objs.size := Heap.lt_size ho
          omega
        · rw [← hgob] at z
          cases z
    have st5 : tn 0 (h'.push gob) := T.keep _ _ _ st2 fun b hb o e => keep5 b o (by rw [h4]; exact keep3 b o (nPfp b hb) e)
    refine ⟨h'.objs.size, s4.gens.size, (fun s => ∃ σ' H', Inv (gcx X (X.A.in1.in1.over cl []) s4 H4 ce fp) [(h'.objs.size, gob)] σ' H' s ∧ Q (.bl sv) H'), (fun s => ∃ σ' H', Inv (gcx X (X.A.in1.in1.over cl []) s4 H4 ce fp) [(h'.objs.size, gob)] σ' H' s ∧ Q (.bl (!sv)) H'), rfl, hgen _ ga, ?_, I5.bare, ?_, ?_, ?_, ?_, ?_⟩
    · exact J4.nolimit.keeps keep5
    · rintro s s' os hh hb ⟨σ', H', J, qq⟩
      exact ⟨σ', H', Inv.same J os hh hb, qq⟩
    · rintro s s' os hh hb ⟨σ', H', J, qq⟩
      exact ⟨σ', H', J.call' (ch := []) os (Un.kept hh) (J.hok.kept hh) hb (fun b z => nomatch z), qq⟩
    · rintro s' ⟨σ', H', J, qq⟩
      exact ⟨.bl sv, H', J4.call' (ch := fp) J.os J.base J.hok J.bare (fun b hb => ⟨(f4 b hb).1.2.2.2.1, (f4 b hb).1.2.1, (f4 b hb).1.2.2.2.2.1, (f4 b hb).1.2.2.2.2.2⟩), rfl, qq⟩
    · rintro s' ⟨σ', H', J, qq⟩
      exact ⟨.bl (!sv), H', J4.call' (ch := fp) J.os J.base J.hok J.bare (fun b hb => ⟨(f4 b hb).1.2.2.2.1, (f4 b hb).1.2.1, (f4 b hb).1.2.2.2.2.1, (f4 b hb).1.2.2.2.2.2⟩), rfl, qq⟩
    · have sc : ce.scope = scope := by rw [← hce]; rfl
      refine ⟨m0 + 1, _, Array.getElem?_push_size .., rfl, ?_⟩
      have loop := fun (s₀ s : Shared) (Is : Inv (gcx X (X.A.in1.in1.over cl []) s4 H4 ce fp) [(h'.objs.size, gob)] (wipe σ (own.map (·.2))) H4 s) (sts : tn 0 s.heap) =>
        seg_all (X := gcx X (X.A.in1.in1.over cl []) s4 H4 ce fp) (A := X.A.in1.in1) (sv := sv) (a := h'.objs.size) (g := s4.gens.size) (gob := gob) (σ := σ) (vs := own.map (·.2)) (Qs := Q (.bl sv)) (Qe := Q (.bl (!sv))) (pos := gpos) (scope := scope) (iter := iter)
          T hc (by rw [hcode2]) rfl rfl rfl (by rw [sc]; exact hco) haf hgen (hgg _ _ _ _ _ sc hroom) (he _ _ _ _ _ sc hroom) turn m0 (m0 + 1) s₀ 0 H4 s (by omega) w0 Is sts hfpH
      have I6 : Inv (gcx X (X.A.in1.in1.over cl []) s4 H4 ce fp) [(h'.objs.size, gob)] (wipe σ (own.map (·.2))) H4 (({ s4 with heap := h'.push gob, gens := s4.gens.push (.fresh (.compStart (.GeneratorExp elt [⟨tg, iter, [], 0⟩] scope gpos) 0 (.ref it) .none ce)), toks := t0 } : Shared).setGen s4.gens.size .running) :=
        Inv.same I5' rfl rfl (allBare_setGen I5'.bare rfl)
      have lp := loop (({ s4 with heap := h'.push gob, gens := s4.gens.push (.fresh (.compStart (.GeneratorExp elt [⟨tg, iter, [], 0⟩] scope gpos) 0 (.ref it) .none ce)), toks := t0 } : Shared).setGen s4.gens.size .running) _ I6 st5
      show Seg _ _ _ _ _ _ _ ((compStart (.GeneratorExp elt [⟨tg, iter, [], 0⟩] scope gpos) 0 (.ref it) .none ce).onRaise (leaving ce)) [] _
      unfold compStart
      rw [Sem.onRaise_eq_wrap]
      show Seg _ _ _ _ _ _ _ ((ask >>= _).wrap _ _ _ _) [] _
      refine seg_bind_wrap (wpAny_askSetting ?_)
      split
      · exact seg_again rfl lp
      · first
          | exact seg_bind_wrap (wpAny_rule (seg_bind_wrap (wpAny_standAt (seg_bind_wrap (T.self _ 0 _ _ _ st5 (seg_again rfl lp))))))
          | (refine seg_bind_wrap (wpAny_rule ?_); show Seg _ _ _ _ _ _ _ ((standAt iter.pos >>= _).wrap _ _ _ _) [] _; exact seg_bind_wrap (wpAny_standAt (seg_bind_wrap (T.self _ 0 _ _ _ st5 (seg_again rfl lp)))))
  refine ⟨I2.nolimit, ?_⟩
  cases hf : codeAmong gpos ps.toList with
  | none =>
    refine wpAny_genexprCodeX hcode (cd.code hPs ht) (cd.tab hPs) hf fun c' h' tk hx hge hlt hco' _ htab' _ => ?_
    obtain ⟨o1, vs, f1, tf, fl, tg, inF, tx, tt, op, _, _, _, _, _, _, _, _, _, htr, _⟩ := hco'
    exact cont _ h' tk _ hx htab'.2 ⟨_, rfl⟩ htr
  | some cv =>
    refine wpAny_genexprCode_hit hcode (cd.code hPs ht) hf ?_
    exact cont cv s2.heap s2.toks ps (Heap.ExtBut.refl _ _) hPs ⟨#[], by simp⟩ ht
theorem pe_gx_all {p pos : Pos} (hr : Room (k + 1) X.A) (hc : X.calm = true) (hN : X.N.Nodup) (hg : Gl X "all") (hm : X.mg "all" = none) (TB : GxR.TabB X.base X.mg c P) (hcode : X.env.code = .ref c) (ok : BlkOk X.N X.env.scope scope own) (hco : scope.isCoroutine = false) (hdot : scope.names.lookup (".0" : Str) = some NameKind.local)
    (hi : PI X tg iter wi) (hgg : ∀ (A' : Around) (s : Shared) (H : Hp) (cenv : Env) (fp : List Addr), cenv.scope = scope → Room k A' → PG (gcx X A' s H cenv fp) tg gg) (he : ∀ (A' : Around) (s : Shared) (H : Hp) (cenv : Env) (fp : List Addr), cenv.scope = scope → Room k A' → PE (gcx X A' s H cenv fp) elt te)
    (hs : ∀ v, genFold iter X.env v = pure v)
    (hst : starEach [.GeneratorExp elt [⟨tg, iter, [], 0⟩] scope gpos] X.env = (false, eval (.GeneratorExp elt [⟨tg, iter, [], 0⟩] scope gpos) X.env) :: starEach [] X.env := by rfl) :
    PE X (.Call (.Name "all" p) [.GeneratorExp elt [⟨tg, iter, [], 0⟩] scope gpos] [] pos) (tGx false P wi gg te (own.map (·.2))) := by
  refine ⟨fun pins s σ H Q I h => ?_⟩
  refine wpAny_Call_Name_kw (ld_blt I hg hm (by rfl) ?_)
  refine PyProof.Rows.callWith_builtin1 ?_ hst (by rfl)
  rw [hst]
  show wpAny _ _ (spliced ((false, eval (.GeneratorExp elt [⟨tg, iter, [], 0⟩] scope gpos) X.env) :: backTo pos (starEach [] X.env))) _ _ s
  refine Calls.spliced_cons (thn (gen_made hr hc hN TB hcode ok hco hdot hi hgg he hs I h) fun u s6 ⟨a, g, fi, fi2, eu, hgen, hl, hb, hF, hF2, h1, h2, m, gs, hgs, hgo⟩ => ?_)
  subst eu
  refine Calls.spliced_nil ?_
  refine call_function_tree F.kind_all F.plain_all F.entry_all (F.args_all1 _) ?_
  unfold Builtin.«all»
  refine wpAny_bind (m := oneArg "all" _) (wpAny_pure ?_)
  refine wpAny_bind (wpAny_pyIter_gen hgen ?_)
  exact wpAny_pure ⟨plainId_quiet F.plain_all_loop _, drain_all (A := X.A) hr.hd (by have := hr.dp; omega) hF hF2 (fun s' z => h1 s' z) (fun s' z => h2 s' z) m s6 hgen hl hb ⟨gs, hgs, hgo⟩⟩
theorem pe_gx_any {p pos : Pos} (hr : Room (k + 1) X.A) (hc : X.calm = true) (hN : X.N.Nodup) (hg : Gl X "any") (hm : X.mg "any" = none) (TB : GxR.TabB X.base X.mg c P) (hcode : X.env.code = .ref c) (ok : BlkOk X.N X.env.scope scope own) (hco : scope.isCoroutine = false) (hdot : scope.names.lookup (".0" : Str) = some NameKind.local)
    (hi : PI X tg iter wi) (hgg : ∀ (A' : Around) (s : Shared) (H : Hp) (cenv : Env) (fp : List Addr), cenv.scope = scope → Room k A' → PG (gcx X A' s H cenv fp) tg gg) (he : ∀ (A' : Around) (s : Shared) (H : Hp) (cenv : Env) (fp : List Addr), cenv.scope = scope → Room k A' → PE (gcx X A' s H cenv fp) elt te)
    (hs : ∀ v, genFold iter X.env v = pure v)
    (hst : starEach [.GeneratorExp elt [⟨tg, iter, [], 0⟩] scope gpos] X.env = (false, eval (.GeneratorExp elt [⟨tg, iter, [], 0⟩] scope gpos) X.env) :: starEach [] X.env := by rfl) :
    PE X (.Call (.Name "any" p) [.GeneratorExp elt [⟨tg, iter, [], 0⟩] scope gpos] [] pos) (tGx true P wi gg te (own.map (·.2))) := by
  refine ⟨fun pins s σ H Q I h => ?_⟩
  refine wpAny_Call_Name_kw (ld_blt I hg hm (by rfl) ?_)
  refine PyProof.Rows.callWith_builtin1 ?_ hst (by rfl)
  rw [hst]
  show wpAny _ _ (spliced ((false, eval (.GeneratorExp elt [⟨tg, iter, [], 0⟩] scope gpos) X.env) :: backTo pos (starEach [] X.env))) _ _ s
  refine Calls.spliced_cons (thn (gen_made hr hc hN TB hcode ok hco hdot hi hgg he hs I h) fun u s6 ⟨a, g, fi, fi2, eu, hgen, hl, hb, hF, hF2, h1, h2, m, gs, hgs, hgo⟩ => ?_)
  subst eu
  refine Calls.spliced_nil ?_
  refine call_function_tree F.kind_any F.plain_any F.entry_any (F.args_any1 _) ?_
  unfold Builtin.«any»
  refine wpAny_bind (m := oneArg "any" _) (wpAny_pure ?_)
  refine wpAny_bind (wpAny_pyIter_gen hgen ?_)
  exact wpAny_pure ⟨plainId_quiet F.plain_any_loop _, drain_any (A := X.A) hr.hd (by have := hr.dp; omega) hF hF2 (fun s' z => h1 s' z) (fun s' z => h2 s' z) m s6 hgen hl hb ⟨gs, hgs, hgo⟩⟩
end
end Pv

/-! Dicts whose keys are tuples, nested, of whole numbers: on the hand layer -/
namespace Pv
open PySem PySem.Spec PyProof.Rows L2

mutual
/-- hash(k) of a key without texts -/
def hashN : NestedKey → Int
  | .none => reduceHash 0xFCA86420
  | .num i => hashInt i
  | .text _ => 0
  | .tup ks => reduceHash (Builtin.Tuple.tupleHashOf (hashNs ks))
def hashNs : List NestedKey → List Int
  | [] => []
  | k :: ks => hashN k :: hashNs ks
end
mutual
/-- whole numbers and tuples alone -/
def nk : NestedKey → Bool
  | .num _ => true
  | .tup ks => nks ks
  | _ => false
def nks : List NestedKey → Bool
  | [] => true
  | k :: ks => nk k && nks ks
end
mutual
theorem hashN_eq (w : World) : ∀ k, nk k = true → NestedKey.hash w k = hashN k
  | .num i, _ => by simp only [NestedKey.hash, hashN]
  | .tup ks, h => by
    simp only [nk] at h
    simp only [NestedKey.hash, hashN, hashNs_eq w ks h]
  | .none, h => by simp [nk] at h
  | .text _, h => by simp [nk] at h
theorem hashNs_eq (w : World) : ∀ ks, nks ks = true → NestedKey.hashes w ks = hashNs ks
  | [], _ => rfl
  | k :: ks, h => by
    simp only [nks, Bool.and_eq_true] at h
    simp only [NestedKey.hashes, hashNs, hashN_eq w k h.1, hashNs_eq w ks h.2]
end
abbrev EN := NestedKey × Addr × Value
def entryN (x : EN) : DictEntry := ⟨hashN x.1, .ref x.2.1, x.2.2⟩
/-- at a stands the dict with these entries -/
def DN (a : Addr) (xs : List EN) : Heap → Prop := fun h => (a == sysModules) = false ∧ ∃ o es ep, h.get? a = some o ∧ o.ExactDict ∧ o.data = .dict es ep ∧ es.toList = xs.map entryN ∧ (xs.map (·.1)).Nodup
mutual
/-- in H the value is the key -/
inductive KeyN (K : PySem.W.Frag) (H : Hp) : NestedKey → V → Prop
  | num (i : Int) : KeyN K H (.num i) (.int i)
  | tup {a : Addr} {vs : List V} {ks : List NestedKey} : SqT K H a vs → KeyNs K H ks vs → KeyN K H (.tup ks) (.ref a)
inductive KeyNs (K : PySem.W.Frag) (H : Hp) : List NestedKey → List V → Prop
  | nil : KeyNs K H [] []
  | cons {k : NestedKey} {v : V} {ks : List NestedKey} {vs : List V} : KeyN K H k v → KeyNs K H ks vs → KeyNs K H (k :: ks) (v :: vs)
end
mutual
theorem KeyN.nk {K : PySem.W.Frag} {H : Hp} : ∀ {k : NestedKey} {v : V}, KeyN K H k v → Pv.nk k = true
  | _, _, .num i => rfl
  | _, _, .tup _ h => by simp only [Pv.nk]; exact KeyNs.nks h
theorem KeyNs.nks {K : PySem.W.Frag} {H : Hp} : ∀ {k : List NestedKey} {v : List V}, KeyNs K H k v → Pv.nks k = true
  | _, _, .nil => rfl
  | _, _, .cons h t => by simp only [Pv.nks, KeyN.nk h, KeyNs.nks t, Bool.and_self]
end
section
variable {X : Cx} {pins : List (Addr × Obj)} {σ : L2.St} {H : Hp} {s : Shared}
mutual
theorem KeyN.is (I : Inv X pins σ H s) : ∀ {k : NestedKey} {v : V} {u : Value}, KeyN X.K H k v → RelV v u → NestedIs s.heap k u
  | _, _, _, .num i, r => by
    obtain ⟨t, rfl⟩ := r
    exact .int _ _
  | _, _, _, .tup h t, r => by
    cases r
    obtain ⟨its, rv, ⟨o, ho, hc, n, hd⟩, _⟩ := I.tuple h
    exact .tup ho hc hd (by simpa using KeyNs.is I t rv)
theorem KeyNs.is (I : Inv X pins σ H s) : ∀ {ks : List NestedKey} {vs : List V} {us : List Value}, KeyNs X.K H ks vs → Vals vs us → NestedAll s.heap ks us
  | _, _, _, .nil, r => by cases r; exact .nil
  | _, _, _, .cons h t, r => by
    cases r with
    | cons a b => exact .cons (KeyN.is I h a) (KeyNs.is I t b)
end
/-- the keys stand -/
def KeysN (K : PySem.W.Frag) (H : Hp) (xs : List EN) : Prop := ∀ x ∈ xs, KeyN K H x.1 (.ref x.2.1) ∧ x.1.depth ≤ 8
theorem DN.dict (I : Inv X pins σ H s) {a : Addr} {xs : List EN} (h : H a = some (.ext (DN a xs))) (hk : KeysN X.K H xs) : (a == sysModules) = false ∧ s.heap.DictOfH (nestedKind X.prog X.w) a xs := by
  obtain ⟨hs, o, es, ep, h1, h2, h3, h4, h5⟩ := (I.hok a _ h).1
  refine ⟨hs, o, es, ep, h1, h2, h3, ?_, fun x hx => ⟨KeyN.is I (hk x hx).1 rfl, (hk x hx).2⟩, h5⟩
  rw [h4]
  refine List.map_congr_left fun x hx => ?_
  show entryN x = _
  unfold entryN entryOfKey
  rw [← hashN_eq X.w x.1 (hk x hx).1.nk]
  rfl
theorem room_n {A : Around} (hu : A.units + 64 < cLine) : (nestedKind X.prog X.w).room A.in1 := by
  show A.units + 1 + 8 < cLine
  omega
def rIxN (K : PySem.W.Frag) : R2 := fun x y H Q => ∃ a xs b k ka u v, x = .ref a ∧ H a = some (.ext (DN a xs)) ∧ KeysN K H xs ∧ y = .ref b ∧ KeyN K H k (.ref b) ∧ k.depth ≤ 8 ∧ atKey xs k = some (ka, u) ∧ RelV v u ∧ Q v H
theorem ix_dn (hu : X.A.units + 64 < cLine) : IxR X (rIxN X.K) := by
  intro value slice pins s σ H x y v u Q I rx ry h hs
  obtain ⟨a, xs, b, k, ka, u', v', rfl, hd, hk, rfl, kk, kd, e, rv, q⟩ := h
  cases rx
  cases ry
  obtain ⟨_, hm⟩ := DN.dict I hd hk
  exact tail_any hm.typeIs slot_dict_getitem.lookup (wpAny_getItem_heap (room_n hu) ⟨KeyN.is I kk rfl, kd⟩ hm e ⟨v', H, I.tok _, rv, q⟩) hs
def rInN (K : PySem.W.Frag) : R2 := fun x y H Q => ∃ a xs b k, y = .ref a ∧ H a = some (.ext (DN a xs)) ∧ KeysN K H xs ∧ x = .ref b ∧ KeyN K H k (.ref b) ∧ k.depth ≤ 8 ∧ Q (.bl (atKey xs k).isSome) H
def rNotInN (K : PySem.W.Frag) : R2 := fun x y H Q => ∃ a xs b k, y = .ref a ∧ H a = some (.ext (DN a xs)) ∧ KeysN K H xs ∧ x = .ref b ∧ KeyN K H k (.ref b) ∧ k.depth ≤ 8 ∧ Q (.bl (!(atKey xs k).isSome)) H
theorem op_inN (hu : X.A.units + 64 < cLine) : OpR X (compareOp .In) (rInN X.K) := by
  intro pins s σ H x y v u Q I rx ry h
  obtain ⟨a, xs, b, k, rfl, hd, hk, rfl, kk, kd, q⟩ := h
  cases rx
  cases ry
  obtain ⟨hsm, hm⟩ := DN.dict I hd hk
  exact wpAny_in_heap (room_n hu) ⟨KeyN.is I kk rfl, kd⟩ hsm hm ⟨.bl _, H, I.tok _, rfl, q⟩
theorem op_notInN (hu : X.A.units + 64 < cLine) : OpR X (compareOp .NotIn) (rNotInN X.K) := by
  intro pins s σ H x y v u Q I rx ry h
  obtain ⟨a, xs, b, k, rfl, hd, hk, rfl, kk, kd, q⟩ := h
  cases rx
  cases ry
  obtain ⟨hsm, hm⟩ := DN.dict I hd hk
  exact wpAny_notIn_heap (room_n hu) ⟨KeyN.is I kk rfl, kd⟩ hsm hm ⟨.bl _, H, I.tok _, rfl, q⟩
theorem storedH_len (xs : List EN) (k : NestedKey) (b : Addr) (u : Value) : (storedH xs k b u).length ≤ xs.length + 1 := by
  unfold storedH
  split <;> simp
theorem storedH_keys {xs : List EN} {k : NestedKey} {b : Addr} {u : Value} {x : EN} (h : x ∈ storedH xs k b u) : (∃ y ∈ xs, y.1 = x.1 ∧ y.2.1 = x.2.1) ∨ (x.1 = k ∧ x.2.1 = b) := by
  unfold storedH at h
  split at h
  · obtain ⟨y, hy, rfl⟩ := List.mem_map.mp h
    refine .inl ⟨y, hy, ?_⟩
    unfold putAt
    split <;> exact ⟨rfl, rfl⟩
  · rcases List.mem_append.mp h with h | h
    · exact .inl ⟨x, h, rfl, rfl⟩
    · simp only [List.mem_singleton] at h
      subst h
      exact .inr ⟨rfl, rfl⟩
def rSetN (K : PySem.W.Frag) : TSet := fun o i v H Q => ∃ a xs b k, o = .ref a ∧ H a = some (.ext (DN a xs)) ∧ KeysN K H xs ∧ i = .ref b ∧ KeyN K H k (.ref b) ∧ k.depth ≤ 8 ∧ xs.length ≤ sizeLine ∧ ∀ u, RelV v u → Q (upd H a (.ext (DN a (storedH xs k b u))))
theorem set_dn (hu : X.A.units + 64 < cLine) : PSet X (rSetN X.K) := by
  intro pins s σ H o i v ov iv u Q I ro ri rv h
  obtain ⟨a, xs, b, k, rfl, hd, hk, rfl, kk, kd, hl, q⟩ := h
  cases ro
  cases ri
  obtain ⟨hsm, hm⟩ := DN.dict I hd hk
  refine wpAny_setItem_heap (hsz := hl) (room_n hu) ⟨KeyN.is I kk rfl, kd⟩ hm fun h' dd hs => ⟨_, ?_, q u rv⟩
  obtain ⟨q1, es, ep, hq, h2, h3, h4, h6, h5⟩ := dd
  refine d_write I (by rw [hd]; exact True.intro) hs ⟨q1, hq⟩ ⟨⟨hsm, q1, es, ep, hq, h2, h3, ?_, h5⟩, ⟨q1, hq⟩, ?_⟩
  · rw [h4]
    refine List.map_congr_left fun x hx => ?_
    have hn : nk x.1 = true := by
      rcases storedH_keys hx with ⟨y, hy, e1, e2⟩ | ⟨e1, e2⟩
      · rw [← e1]; exact (hk y hy).1.nk
      · rw [e1]; exact kk.nk
    unfold entryN entryOfKey
    rw [← hashN_eq X.w x.1 hn]
    rfl
  · rintro h1 h2 ⟨g0, o, es, ep, g1, g2⟩ st
    exact ⟨g0, o, es, ep, st o g1, g2⟩
def tDNewN : TE := fun _ H Q => ∀ p, H p = none → Q (.ref p) (upd H p (.ext (DN p [])))
theorem dn_empty {P : Program} {w : World} {H : Hp} (h : Heap) (hb : sysModules < h.objs.size) : ObjOk P w H (h.push { cls := .type "dict", data := .dict #[] }) h.objs.size (.ext (DN h.objs.size [])) :=
  ⟨⟨beq_eq_false_iff_ne.mpr (Ne.symm (Nat.ne_of_lt hb)), _, #[], 0, Heap.get?_push_size _ rfl, ⟨rfl, rfl, rfl⟩, rfl, rfl, List.nodup_nil⟩, ⟨_, Heap.get?_push_size _ rfl⟩, fun h1 h2 ⟨g0, o, es, ep, g1, g2⟩ st => ⟨g0, o, es, ep, st o g1, g2⟩⟩
theorem pe_dnewN {pos : Pos} : PE X (.Dict [] [] pos) tDNewN := ⟨fun pins s σ H Q I h =>
  wpAny_Dict_empty ⟨.ref s.heap.objs.size, _, I.laid (a := s.heap.objs.size) (o := .ext (DN s.heap.objs.size [])) (t' := s.toks) (fun _ _ q => Heap.get?_push_of_some _ q) (Nat.le_refl _) (dn_empty s.heap I.big), rfl, h _ (I.hok.fresh (Nat.le_refl _))⟩⟩
end
end Pv

/-! A pure evaluator over the statement's own trees, part A: values, what stands for them. -/
namespace Pv
open PySem L2

inductive PV where
  | non | bl (b : Bool) | int (i : Int) | str (x : Str) | tup (xs : List PV) | lst (xs : List PV)
  /-- a dict: keys and values in turn -/
  | dct (xs : List PV)

mutual
def PV.toD : PV → PyData
  | .non => .none
  | .bl b => .bool b
  | .int i => .int i
  | .str x => .str x
  | .tup xs => .tuple (PV.toDs xs)
  | .lst xs => .list (PV.toDs xs)
  | .dct _ => .dict []
def PV.toDs : List PV → List PyData
  | [] => []
  | x :: xs => PV.toD x :: PV.toDs xs
end

mutual
/-- no list within -/
def PV.flat : PV → Bool
  | .tup xs => PV.flats xs
  | .lst _ => false
  | .dct _ => false
  | _ => true
def PV.flats : List PV → Bool
  | [] => true
  | x :: xs => PV.flat x && PV.flats xs
end

mutual
/-- the key that a value is: whole numbers and tuples of these -/
def keyN : PV → Option NestedKey
  | .int i => some (.num i)
  | .tup xs => (keyNs xs).map .tup
  | _ => none
def keyNs : List PV → Option (List NestedKey)
  | [] => some []
  | x :: xs => (keyN x).bind fun k => (keyNs xs).map fun ks => k :: ks
end
def keyT : PV → Option NestedKey
  | .tup xs => (keyN (.tup xs)).bind fun k => if k.depth ≤ 8 then some k else none
  | _ => none
/-- all of F stands in F'; a code object's table may have grown -/
def Kept1 (u : HO) (o : Option HO) : Prop := match u with
  | .tbl ps => ∃ more, o = some (.tbl (ps ++ more)) ∧ (TriplesOk ps.toList → TriplesOk (ps ++ more).toList)
  | u => o = some u
def Same (F F' : Hp) : Prop := ∀ b u, F b = some u → Kept1 u (F' b)
theorem Kept1.of {u : HO} {o : Option HO} (h : o = some u) : Kept1 u o := by
  cases u with
  | tbl ps => exact ⟨#[], by rw [h]; simp, by simp⟩
  | _ => exact h
theorem Kept1.get {u : HO} {o : Option HO} (h : Kept1 u o) (nt : ∀ ps, u ≠ .tbl ps) : o = some u := by
  cases u with
  | tbl ps => exact absurd rfl (nt ps)
  | _ => exact h
theorem Same.of {F F' : Hp} (h : ∀ b u, F b = some u → F' b = some u) : Same F F' := fun b u e => .of (h b u e)
theorem Same.refl (F : Hp) : Same F F := .of fun _ _ h => h
theorem Same.trans {F F1 F2 : Hp} (a : Same F F1) (b : Same F1 F2) : Same F F2 := fun p u e => by
  have h1 := a p u e
  cases u with
  | tbl ps =>
    obtain ⟨m1, e1, t1⟩ := h1
    obtain ⟨m2, e2, t2⟩ := b p _ e1
    exact ⟨m1 ++ m2, by rw [e2, Array.append_assoc], fun t => by rw [← Array.append_assoc]; exact t2 (t1 t)⟩
  | _ => exact b p _ h1
theorem Same.free {F F' : Hp} (e : Same F F') {l : Addr} (h : F' l = none) : F l = none := by
  cases q : F l with
  | none => rfl
  | some u =>
    have h1 := e l u q
    cases u with
    | tbl ps => obtain ⟨m1, e1, _⟩ := h1; rw [h] at e1; cases e1
    | _ =>
      have h1 : F' l = _ := h1
      rw [h] at h1; cases h1
theorem Same.lst {F F' : Hp} (e : Same F F') {l : Addr} {xs : List V} (h : F l = some (.lst xs)) : F' l = some (.lst xs) := e l _ h
/-- the tables stand -/
def Tin (B : List Addr) (F : Hp) : Prop := ∀ P ∈ B, GxR.TabG F P
theorem Tin.mono {B : List Addr} {F F' : Hp} (s : Same F F') (h : Tin B F) : Tin B F' := fun P hP => by
  obtain ⟨ps, e, t⟩ := h P hP
  obtain ⟨more, e1, t1⟩ := s P _ e
  exact ⟨_, e1, t1 t⟩
theorem same_tabbed {P : Addr} {H H' : Hp} (t : TabX P H H') : Same H H' := fun b u e => by
  obtain ⟨ps, more, e1, t1, rfl⟩ := t
  by_cases hb : b = P
  · subst hb
    rw [e1] at e
    cases e
    exact ⟨more, upd_same, fun _ => t1⟩
  · exact .of (by rw [upd_ne hb]; exact e)
mutual
/-- the value v in the heap F is the datum -/
inductive Rep (K : PySem.W.Frag) (F : Hp) : V → PV → Prop
  | non : Rep K F .non .non
  | bl (b : Bool) : Rep K F (.bl b) (.bl b)
  | int (i : Int) : Rep K F (.int i) (.int i)
  | str (x : Str) : Rep K F (.str x) (.str x)
  | tup {a : Addr} {vs : List V} {xs : List PV} : SqT K F a vs → Reps K F vs xs → Rep K F (.ref a) (.tup xs)
  | lst {a : Addr} {vs : List V} {xs : List PV} : SqL K F a vs → Reps K F vs xs → Rep K F (.ref a) (.lst xs)
  | dct {a : Addr} {es : List EN} {xs : List PV} : F a = some (.ext (DN a es)) → RepsD K F es xs → Rep K F (.ref a) (.dct xs)
inductive Reps (K : PySem.W.Frag) (F : Hp) : List V → List PV → Prop
  | nil : Reps K F [] []
  | cons {v : V} {vs : List V} {x : PV} {xs : List PV} : Rep K F v x → Reps K F vs xs → Reps K F (v :: vs) (x :: xs)
/-- the entries of a dict -/
inductive RepsD (K : PySem.W.Frag) (F : Hp) : List EN → List PV → Prop
  | nil : RepsD K F [] []
  | cons {k : NestedKey} {b : Addr} {u : Value} {v : V} {es : List EN} {x y : PV} {xs : List PV} : keyT x = some k → Rep K F (.ref b) x → RelV v u → Rep K F v y → RepsD K F es xs → RepsD K F ((k, b, u) :: es) (x :: y :: xs)
end

section
variable {K : PySem.W.Frag} {F F' H H' : Hp} {v : V} {vs ws : List V} {x : PV} {xs ys : List PV}

theorem Same.rd {a : Addr} {u : HO} (e : Same F F') (h : Rd F a u) (nt : ∀ ps, u ≠ .tbl ps) : Rd F' a u := by
  rcases h with h | ⟨o, h⟩
  · exact .inl ((e _ _ h).get nt)
  · exact .inr ⟨o, e _ _ h⟩
theorem Same.sqL {a : Addr} {us : List V} (e : Same F F') (h : SqL K F a us) : SqL K F' a us := by
  rcases h with h | h
  · exact .inl (Same.rd e h fun ps z => nomatch z)
  · exact .inr h
theorem Same.sqT {a : Addr} {us : List V} (e : Same F F') (h : SqT K F a us) : SqT K F' a us := by
  rcases h with h | h
  · exact .inl (Same.rd e h fun ps z => nomatch z)
  · exact .inr h

mutual
theorem Rep.mono (e : Same F F') : ∀ {v : V} {x : PV}, Rep K F v x → Rep K F' v x
  | _, _, .non => .non
  | _, _, .bl b => .bl b
  | _, _, .int i => .int i
  | _, _, .str x => .str x
  | _, _, .tup h r => .tup (Same.sqT e h) (Reps.mono e r)
  | _, _, .lst h r => .lst (Same.sqL e h) (Reps.mono e r)
  | _, _, .dct h r => .dct ((e _ _ h).get fun ps z => nomatch z) (RepsD.mono e r)
theorem Reps.mono (e : Same F F') : ∀ {vs : List V} {xs : List PV}, Reps K F vs xs → Reps K F' vs xs
  | _, _, .nil => .nil
  | _, _, .cons h r => .cons (Rep.mono e h) (Reps.mono e r)
theorem RepsD.mono (e : Same F F') : ∀ {es : List EN} {xs : List PV}, RepsD K F es xs → RepsD K F' es xs
  | _, _, .nil => .nil
  | _, _, .cons hk h hv r t => .cons hk (Rep.mono e h) hv (Rep.mono e r) (RepsD.mono e t)
end

theorem Reps.length : ∀ {vs : List V} {xs : List PV}, Reps K F vs xs → vs.length = xs.length
  | _, _, .nil => rfl
  | _, _, .cons _ r => congrArg Nat.succ (Reps.length r)
theorem Reps.get : ∀ {vs : List V} {xs : List PV} {i : Nat} {x : PV}, Reps K F vs xs → xs[i]? = some x → ∃ v, vs[i]? = some v ∧ Rep K F v x
  | _, _, _, _, .nil, e => by simp at e
  | _, _, 0, _, .cons r _, e => by simp at e; subst e; exact ⟨_, rfl, r⟩
  | _, _, i + 1, x, .cons _ t, e => by
    obtain ⟨u, h1, h2⟩ := Reps.get (i := i) (x := x) t (by simpa using e)
    exact ⟨u, by simpa using h1, h2⟩
theorem Reps.getV : ∀ {vs : List V} {xs : List PV} {i : Nat} {v : V}, Reps K F vs xs → vs[i]? = some v → ∃ x, xs[i]? = some x ∧ Rep K F v x
  | _, _, _, _, .nil, e => by simp at e
  | _, _, 0, _, .cons r _, e => by simp at e; subst e; exact ⟨_, rfl, r⟩
  | _, _, i + 1, x, .cons _ t, e => by
    obtain ⟨u, h1, h2⟩ := Reps.getV (i := i) (v := x) t (by simpa using e)
    exact ⟨u, by simpa using h1, h2⟩
theorem Reps.append : ∀ {vs ws : List V} {xs ys : List PV}, Reps K F vs xs → Reps K F ws ys → Reps K F (vs ++ ws) (xs ++ ys)
  | _, _, _, _, .nil, s => s
  | _, _, _, _, .cons r t, s => .cons r (Reps.append t s)
theorem Reps.take : ∀ {vs : List V} {xs : List PV} (n : Nat), Reps K F vs xs → Reps K F (vs.take n) (xs.take n)
  | _, _, 0, _ => .nil
  | _, _, _ + 1, .nil => .nil
  | _, _, n + 1, .cons r t => .cons r (Reps.take n t)
theorem Reps.drop : ∀ {vs : List V} {xs : List PV} (n : Nat), Reps K F vs xs → Reps K F (vs.drop n) (xs.drop n)
  | _, _, 0, r => r
  | _, _, _ + 1, .nil => .nil
  | _, _, n + 1, .cons _ t => Reps.drop n t
theorem Reps.set {v : V} {x : PV} (r : Rep K F v x) : ∀ {vs : List V} {xs : List PV} (i : Nat), Reps K F vs xs → Reps K F (vs.set i v) (xs.set i x)
  | _, _, _, .nil => .nil
  | _, _, 0, .cons _ t => .cons r t
  | _, _, i + 1, .cons q t => .cons q (Reps.set r i t)
theorem Reps.dropLast {vs : List V} {xs : List PV} (h : Reps K F vs xs) : Reps K F vs.dropLast xs.dropLast := by
  rw [List.dropLast_eq_take, List.dropLast_eq_take, h.length]
  exact h.take _
theorem Reps.rev : ∀ {vs : List V} {xs : List PV}, Reps K F vs xs → Reps K F vs.reverse xs.reverse
  | _, _, .nil => .nil
  | _, _, .cons h r => by
    rw [List.reverse_cons, List.reverse_cons]
    exact (Reps.rev r).append (.cons h .nil)
theorem Reps.one (h : Rep K F v x) : Reps K F [v] [x] := .cons h .nil
theorem Reps.ints : ∀ (ns : List Int), Reps K F (ns.map V.int) (ns.map PV.int)
  | [] => .nil
  | n :: ns => .cons (.int n) (Reps.ints ns)
/-- the inversions -/
theorem Rep.ofInt {i : Int} (h : Rep K F v (.int i)) : v = .int i := by cases h; rfl
theorem Rep.ofBl {b : Bool} (h : Rep K F v (.bl b)) : v = .bl b := by cases h; rfl
theorem Rep.ofStr {y : Str} (h : Rep K F v (.str y)) : v = .str y := by cases h; rfl
theorem Rep.ofNon (h : Rep K F v .non) : v = .non := by cases h; rfl
theorem Rep.ofTup (h : Rep K F v (.tup xs)) : ∃ a vs, v = .ref a ∧ SqT K F a vs ∧ Reps K F vs xs := by
  cases h with | tup h r => exact ⟨_, _, rfl, h, r⟩
theorem Rep.ofDct (h : Rep K F v (.dct xs)) : ∃ a es, v = .ref a ∧ F a = some (.ext (DN a es)) ∧ RepsD K F es xs := by
  cases h with | dct h r => exact ⟨_, _, rfl, h, r⟩
theorem Rep.ofLst (h : Rep K F v (.lst xs)) : ∃ a vs, v = .ref a ∧ SqL K F a vs ∧ Reps K F vs xs := by
  cases h with | lst h r => exact ⟨_, _, rfl, h, r⟩

mutual
theorem Rep.toD : ∀ {v : V} {x : PV}, x.toD.canLay0 = true → Rep K F v x → Dp K F v x.toD
  | _, _, _, .non => by unfold PV.toD; exact .non
  | _, _, _, .bl b => by unfold PV.toD; exact .bl b
  | _, _, _, .int i => by unfold PV.toD; exact .int i
  | _, _, _, .str x => by unfold PV.toD; exact .str x
  | _, _, f, .tup h r => by unfold PV.toD at f ⊢; exact .tup h (Reps.toDs (by simpa [PyData.canLay0] using f) r)
  | _, _, f, .lst h r => by unfold PV.toD at f ⊢; exact .lst h (Reps.toDs (by simpa [PyData.canLay0] using f) r)
  | _, _, f, .dct _ _ => by unfold PV.toD at f; exact nomatch f
theorem Reps.toDs : ∀ {vs : List V} {xs : List PV}, PyData.canLayAll0 (PV.toDs xs) = true → Reps K F vs xs → DpAll K F vs (PV.toDs xs)
  | _, _, _, .nil => by unfold PV.toDs; exact .nil
  | _, _, f, .cons h r => by
    unfold PV.toDs at f ⊢
    simp only [PyData.canLayAll0, Bool.and_eq_true] at f
    exact .cons (Rep.toD f.1 h) (Reps.toDs f.2 r)
end

/-- a datum without lists leans on tuples alone -/
def Tups (F F' : Hp) : Prop := ∀ a vs, Rd F a (.tup vs) → Rd F' a (.tup vs)
mutual
theorem Rep.tups (e : Tups F F') : ∀ {v : V} {x : PV}, x.flat = true → Rep K F v x → Rep K F' v x
  | _, _, _, .non => .non
  | _, _, _, .bl b => .bl b
  | _, _, _, .int i => .int i
  | _, _, _, .str x => .str x
  | _, _, f, .tup h r => .tup (h.elim (fun z => .inl (e _ _ z)) .inr) (Reps.tups e (by unfold PV.flat at f; exact f) r)
  | _, _, f, .lst h r => by unfold PV.flat at f; cases f
  | _, _, f, .dct h r => by unfold PV.flat at f; cases f
theorem Reps.tups (e : Tups F F') : ∀ {vs : List V} {xs : List PV}, PV.flats xs = true → Reps K F vs xs → Reps K F' vs xs
  | _, _, _, .nil => .nil
  | _, _, f, .cons h r => by
    unfold PV.flats at f
    rw [Bool.and_eq_true] at f
    exact .cons (Rep.tups e f.1 h) (Reps.tups e f.2 r)
end
end

/-! ### the heap grows: F what is shared, H all -/
structure Grow (F H F' H' : Hp) : Prop where
  f : Same F F'
  h : Same H H'
  in_ : Same F' H'
  new : ∀ p, H p ≠ none → F p = none → F' p = none
theorem Grow.refl {F H : Hp} (e : Same F H) : Grow F H F H := ⟨Same.refl _, Same.refl _, e, fun _ _ h => h⟩
theorem Grow.trans {F H F1 H1 F2 H2 : Hp} (a : Grow F H F1 H1) (b : Grow F1 H1 F2 H2) : Grow F H F2 H2 :=
  ⟨a.f.trans b.f, a.h.trans b.h, b.in_, fun p h1 h2 => b.new p (fun z => h1 (a.h.free z)) (a.new p h1 h2)⟩
theorem same_upd {H : Hp} {p : Addr} {o : HO} (h : H p = none) : Same H (upd H p o) := .of fun b u e => by
  rw [upd_ne (ne_of_none e h)]; exact e
/-- a new object, shared -/
theorem Grow.laid {F H : Hp} {p : Addr} {o : HO} (e : Same F H) (h : H p = none) : Grow F H (upd F p o) (upd H p o) := by
  refine ⟨same_upd (e.free h), same_upd h, fun b u q => ?_, fun q h1 h2 => ?_⟩
  · by_cases hb : b = p
    · subst hb; rw [upd_same] at q ⊢; exact .of q
    · rw [upd_ne hb] at q ⊢; exact e b u q
  · have : q ≠ p := fun z => h1 (by rw [z]; exact h)
    rw [upd_ne this]; exact h2
/-- a new object of one's own -/
theorem Grow.own {F H : Hp} {p : Addr} {o : HO} (e : Same F H) (h : H p = none) : Grow F H F (upd H p o) := by
  refine ⟨Same.refl _, same_upd h, fun b u q => ?_, fun q h1 h2 => h2⟩
  rw [upd_ne (ne_of_none q (e.free h))]
  exact e b u q
/-- what a piece of code has given: a shared value, or a list that is all one's own -/
def Res (K : PySem.W.Frag) (H F' H' : Hp) (v : V) (x : PV) (own : Bool) : Prop :=
  if own = true then ∃ p vs xs, x = .lst xs ∧ v = .ref p ∧ H p = none ∧ F' p = none ∧ H' p = some (.lst vs) ∧ Reps K F' vs xs else Rep K F' v x
theorem Res.of {K : PySem.W.Frag} {H F' H' : Hp} {v : V} {x : PV} (h : Rep K F' v x) : Res K H F' H' v x false := by
  unfold Res; rw [if_neg Bool.false_ne_true]; exact h
theorem Res.mine {K : PySem.W.Frag} {H F' H' : Hp} {p : Addr} {vs : List V} {xs : List PV} (h1 : H p = none) (h2 : F' p = none) (h3 : H' p = some (.lst vs)) (r : Reps K F' vs xs) : Res K H F' H' (.ref p) (.lst xs) true := by
  unfold Res; rw [if_pos rfl]; exact ⟨p, vs, xs, rfl, rfl, h1, h2, h3, r⟩
/-- it may be shared -/
theorem Res.share {K : PySem.W.Frag} {F H F' H' : Hp} {v : V} {x : PV} {own : Bool} (g : Grow F H F' H') (h : Res K H F' H' v x own) : ∃ F2, Grow F H F2 H' ∧ Rep K F2 v x := by
  unfold Res at h
  cases own with
  | false => rw [if_neg Bool.false_ne_true] at h; exact ⟨F', g, h⟩
  | true =>
    rw [if_pos rfl] at h
    obtain ⟨p, vs, xs, rfl, rfl, h1, h2, h3, r⟩ := h
    have s1 : Same F' (upd F' p (.lst vs)) := same_upd h2
    refine ⟨upd F' p (.lst vs), ⟨g.f.trans s1, g.h, fun b u q => ?_, fun q z1 z2 => ?_⟩, .lst (.inl (.inl upd_same)) (r.mono s1)⟩
    · by_cases hb : b = p
      · subst hb; rw [upd_same] at q; cases q; exact h3
      · rw [upd_ne hb] at q; exact g.in_ b u q
    · have : q ≠ p := fun z => z1 (by rw [z]; exact h1)
      rw [upd_ne this]; exact g.new q z1 z2
theorem Res.mono {K : PySem.W.Frag} {H0 H F' H' : Hp} {v : V} {x : PV} {own : Bool} (s : Same H0 H) (h : Res K H F' H' v x own) : Res K H0 F' H' v x own := by
  unfold Res at h ⊢
  cases own with
  | false => rw [if_neg Bool.false_ne_true] at h ⊢; exact h
  | true =>
    rw [if_pos rfl] at h ⊢
    obtain ⟨p, vs, xs, e1, e2, h1, h2, h3, r⟩ := h
    exact ⟨p, vs, xs, e1, e2, s.free h1, h2, h3, r⟩
end Pv

/-! Part B: the evaluator of expressions -/
namespace Pv
open PySem L2

/-- what the surroundings tell: the defs' answers, their defaults, keyword shapes, constants -/
structure Tb where
  raw : Str → List PV → Option (PV × Bool)
  own : Str → Bool
  dfl : Str → Nat → Option (List PV)
  kwd : Str → Nat → List Str → Bool
  con : Str → Option PV
  fgt : Nat → Nat → List (Nat × Bool)
  frz : Nat → Nat → Bool
  gen : Bool
/-- the same, generator expressions taken or not -/
def Tb.wg (T : Tb) (g : Bool) : Tb := ⟨T.raw, T.own, T.dfl, T.kwd, T.con, T.fgt, T.frz, g⟩
/-- the value of a call; the list of a def that hands back a list of its own -/
def fstO : Option (PV × Bool) → Option PV
  | some (x, _) => some x
  | none => none
def ownO : Option (PV × Bool) → Option (List PV)
  | some (.lst xs, true) => some xs
  | _ => none
def Tb.call (T : Tb) (f : Str) (xs : List PV) : Option (PV × Bool) := if T.own f then (ownO (T.raw f xs)).bind fun ys => some (.lst ys, true) else (fstO (T.raw f xs)).bind fun x => some (x, false)

def visB (sc : Scope) (x : Str) : Bool := match sc.names.lookup x with
  | some .local => true | some .cell => true | some .free => true | _ => false
def locB (sc : Scope) (x : Str) : Bool := match sc.names.lookup x with
  | some .local => true | some .cell => true | _ => false
def glB (sc : Scope) (x : Str) : Bool := match sc.names.lookup x with
  | some .globalImplicit => true | _ => false
def okNm (x : Str) : Bool := !(x == ("__debug__" : Str)) && !(x == ("__classdict__" : Str))
def idx (N : List Str) (x : Str) : Option Nat := N.findIdx? (· == x)

abbrev Sl := List (Option PV)
abbrev Out := Option (PV × Bool)
def sh (x : PV) : Out := some (x, false)

def mulOk (i j : Int) : Bool := decide (i.natAbs.log2 + j.natAbs.log2 < 1000000)
def divOk (j : Int) : Bool := decide (j ≠ 0) && decide (j.natAbs.log2 < 9000)
def big : Nat := 1000000

def binop (op : Operator) (x y : PV) : Out :=
  match op, x, y with
  | .Add, .int i, .int j => sh (.int (i + j))
  | .Add, .str a, .str b => if a.length + b.length ≤ big then sh (.str (a ++ b)) else none
  | .Add, .lst a, .lst b => if a.length + b.length ≤ big then some (.lst (a ++ b), true) else none
  | .Add, .tup (a :: as), .tup (b :: bs) => if (a :: as).length + (b :: bs).length ≤ big then sh (.tup ((a :: as) ++ (b :: bs))) else none
  | .Sub, .int i, .int j => sh (.int (i - j))
  | .Mult, .int i, .int j => if mulOk i j then sh (.int (i * j)) else none
  | .FloorDiv, .int i, .int j => if divOk j then sh (.int (i.fdiv j)) else none
  | .Mod, .int i, .int j => if j = 0 then none else sh (.int (i.fmod j))
  | .Pow, .int i, .int j => if 0 ≤ j ∧ j ≤ 1000 ∧ i.natAbs < 2 ^ 64 then sh (.int (i ^ j.toNat)) else none
  | _, _, _ => none

def eqD (x y : PV) : Option Bool := if SeqAt.shaped x.toD && SeqAt.shaped y.toD then some (PyData.eqv x.toD y.toD) else none
/-- the flat items, for in -/
def flatP : PV → Option V
  | .non => some .non | .bl b => some (.bl b) | .int i => some (.int i) | .str s => some (.str s) | _ => none
def flatPs : List PV → Option (List V)
  | [] => some []
  | x :: xs => (flatP x).bind fun v => (flatPs xs).map fun vs => v :: vs
def isIn (x : PV) (xs : List PV) : Option Bool := (flatP x).bind fun v => (flatPs xs).bind fun vs => if flatV v && vs.all flatV then some (inV v vs) else none

/-- dicts: keys and values in turn -/
def dGet (k : NestedKey) : List PV → Option PV
  | x :: y :: r => if keyT x = some k then some y else dGet k r
  | _ => none
def dMap (k : NestedKey) (v : PV) : List PV → List PV
  | x :: y :: r => x :: (if keyT x = some k then v else y) :: dMap k v r
  | l => l
def dPut (k : NestedKey) (x v : PV) (l : List PV) : List PV := if (dGet k l).isSome then dMap k v l else l ++ [x, v]
def dSet (l : List PV) (x v : PV) : Option (List PV) := (keyT x).bind fun k => if l.length ≤ big then some (dPut k x v l) else none
def dIn (x : PV) (l : List PV) : Option Bool := (keyT x).map fun k => (dGet k l).isSome
def cmp (op : CmpOp) (x y : PV) : Option Bool :=
  match op, x, y with
  | .Lt, .int i, .int j => some (decide (i < j))
  | .LtE, .int i, .int j => some (decide (i ≤ j))
  | .Gt, .int i, .int j => some (decide (j < i))
  | .GtE, .int i, .int j => some (decide (j ≤ i))
  | .Eq, x, y => eqD x y
  | .NotEq, x, y => (eqD x y).map (!·)
  | .Is, .non, .non => some true
  | .Is, _, .non => some false
  | .IsNot, .non, .non => some false
  | .IsNot, _, .non => some true
  | .In, x, .lst xs => isIn x xs
  | .In, x, .tup xs => isIn x xs
  | .NotIn, x, .lst xs => (isIn x xs).map (!·)
  | .NotIn, x, .tup xs => (isIn x xs).map (!·)
  | .In, x, .dct xs => dIn x xs
  | .NotIn, x, .dct xs => (dIn x xs).map (!·)
  | .In, .str a, .str b => some (!(Builtin.Str.occurrences b a 0 b.length 1).isEmpty)
  | .NotIn, .str a, .str b => some (!(!(Builtin.Str.occurrences b a 0 b.length 1).isEmpty))
  | _, _, _ => none

def truth : PV → Option Bool
  | .non => some false
  | .bl b => some b
  | .int i => some (i != 0)
  | .str x => if x.length ≤ big then some ((x.length : Int) != 0) else none
  | .lst xs => some (!xs.isEmpty)
  | .tup xs => some (!xs.isEmpty)
  | .dct _ => none

def getIx (x y : PV) : Out :=
  match x, y with
  | .lst xs, .int i => (atI xs i).bind sh
  | .tup xs, .int i => (atI xs i).bind sh
  | .str z, .int i => if z.length ≤ big then (atI z.cps.toList i).bind fun c => sh (.str ⟨#[c]⟩) else none
  | .dct xs, y => (keyT y).bind fun k => (dGet k xs).bind sh
  | _, _ => none
/-- all of a list, the other way round -/
def revL : PV → Out
  | .lst xs => sh (.lst xs.reverse)
  | _ => none
def cutP (xs : List PV) (lo hi : Option Int) : List PV := (xs.drop (HT.sIx xs.length 0 lo)).take (HT.sIx xs.length xs.length hi - HT.sIx xs.length 0 lo)
def getSl (x : PV) (lo hi : Option Int) : Out :=
  match x with
  | .lst xs => some (.lst (cutP xs lo hi), true)
  | .tup xs => if HT.sIx xs.length 0 lo = 0 ∧ HT.sIx xs.length xs.length hi = xs.length then none else sh (.tup (cutP xs lo hi))
  | _ => none

def clsIs (t : String) : PV → Option Bool
  | .non => kitB "NoneType" t
  | .bl _ => kitB "bool" t
  | .int _ => kitB "int" t
  | .str _ => kitB "str" t
  | .tup _ => kitB "tuple" t
  | .lst _ => kitB "list" t
  | .dct _ => none

/-- the built-ins that are called by name, on values -/
def blt (f : Str) (xs : List PV) : Out :=
  if f = "len" then (match xs with
    | [.lst ys] => sh (.int ys.length) | [.tup ys] => sh (.int ys.length)
    | [.str z] => if z.length ≤ big then sh (.int z.length) else none | _ => none)
  else if f = "abs" then (match xs with | [.int i] => sh (.int (if i < 0 then -i else i)) | _ => none)
  else if f = "int" then (match xs with | [.int i] => sh (.int i) | [.bl k] => sh (.int (if k then 1 else 0)) | _ => none)
  else if f = "list" then (match xs with | [.lst ys] => some (.lst ys, true) | [.tup ys] => some (.lst ys, true) | _ => none)
  else if f = "tuple" then (match xs with | [.lst ys] => sh (.tup ys) | [.tup ys] => sh (.tup ys) | _ => none)
  else if f = "str" then (match xs with | [.int i] => if i.natAbs.log2 < 1920 then sh (.str (toString i)) else none | _ => none)
  else none
/-- .. with its own list told -/
def bltV (f : Str) (xs : List PV) : Out := if f = "list" then (match xs with | [.lst ys] => some (.lst ys, true) | [.tup ys] => some (.lst ys, true) | _ => none) else (blt f xs).bind fun z => sh z.1
def bltNames : List Str := ["len", "abs", "int", "list", "tuple", "str", "isinstance", "range"]
def isBlt (f : Str) : Bool := bltNames.any (· == f)
/-- classes that are named in isinstance -/
def tyNames : List (Str × String) := [("int", "int"), ("bool", "bool"), ("tuple", "tuple"), ("list", "list"), ("str", "str")]

def evEs (f : PySem.Expr → Out) : List PySem.Expr → Option (List PV)
  | [] => some []
  | e :: es => match e with
    | .Starred _ _ => none
    | e => (f e).bind fun x => (evEs f es).map fun xs => x.1 :: xs
def blOf : PV → Option Bool
  | .bl b => some b
  | _ => none
def neg1 : PV → Out
  | .int i => sh (.int (-i))
  | _ => none
def not1 : PV → Out
  | .bl c => sh (.bl (!c))
  | _ => none
def boolV (f : PySem.Expr → Out) (op : BoolOp) : List PySem.Expr → Out
  | [] => none
  | e :: es => match es with
    | [] => f e
    | e' :: es' => match op with
      | .And => (f e).bind fun x => (blOf x.1).bind fun b => if b then boolV f op (e' :: es') else sh (.bl false)
      | .Or => (f e).bind fun x => (blOf x.1).bind fun b => if b then sh (.bl true) else boolV f op (e' :: es')
def boolT (f : PySem.Expr → Option Bool) (op : BoolOp) : List PySem.Expr → Option Bool
  | [] => none
  | e :: es => match es with
    | [] => f e
    | e' :: es' => match op with
      | .And => (f e).bind fun b => if b then boolT f op (e' :: es') else some false
      | .Or => (f e).bind fun b => if b then some true else boolT f op (e' :: es')
/-- a target: a name, or a tuple of names: what is stored where -/
def updN (N : List Str) (sc : Scope) (asg : Str → Bool) (x : Str) (v : PV) : Option (List (Nat × PV)) :=
  (idx N x).bind fun i => if locB sc x && asg x then some [(i, v)] else none
def updNs (N : List Str) (sc : Scope) (asg : Str → Bool) : List PySem.Expr → List PV → Option (List (Nat × PV))
  | [], [] => some []
  | .Name x _ :: es, v :: vs => (updN N sc asg x v).bind fun u => (updNs N sc asg es vs).map fun us => u ++ us
  | _, _ => none
def updT0 (N : List Str) (sc : Scope) (asg : Str → Bool) (t : PySem.Expr) (v : PV) : Option (List (Nat × PV)) :=
  match t, v with
  | .Name x _, v => updN N sc asg x v
  | .Tuple es _ _, .tup vs => updNs N sc asg es vs
  | _, _ => none
/-- so many parts of a tuple -/
def unT (n : Nat) : PV → Option (List PV)
  | .tup vs => if vs.length = n then some vs else none
  | _ => none
def updGs (N : List Str) (sc : Scope) (asg : Str → Bool) (vs : List PV) : List PySem.Expr → Nat → Option (List (Nat × PV))
  | [], _ => some []
  | .Name x _ :: es, i => (updN N sc asg x (vs.getD i .non)).bind fun u => (updGs N sc asg vs es (i + 1)).map fun us => u ++ us
  | _, _ => none
def updTK {α : Type} (N : List Str) (sc : Scope) (asg : Str → Bool) (t : PySem.Expr) (v : PV) (k : List (Nat × PV) → Option α) : Option α :=
  match t with
  | .Name x _ => (updN N sc asg x v).bind k
  | .Tuple es _ _ => (unT es.length v).bind fun vs => (updGs N sc asg vs es 0).bind k
  | _ => none
def updT (N : List Str) (sc : Scope) (asg : Str → Bool) (t : PySem.Expr) (v : PV) : Option (List (Nat × PV)) := updTK N sc asg t v some
theorem updTK_eq {α : Type} {N : List Str} {sc : Scope} {asg : Str → Bool} {t : PySem.Expr} {v : PV} {k : List (Nat × PV) → Option α} : updTK N sc asg t v k = (updT N sc asg t v).bind k := by
  unfold updT updTK
  split
  · rw [Option.bind_assoc]; rfl
  · rw [Option.bind_assoc]
    congr 1
    funext vs
    rw [Option.bind_assoc]
    rfl
  · rfl
theorem updGs_old {N : List Str} {sc : Scope} {asg : Str → Bool} {vs : List PV} : ∀ {es : List PySem.Expr} {i : Nat} {us : List (Nat × PV)}, i + es.length = vs.length → updGs N sc asg vs es i = some us → updNs N sc asg es (vs.drop i) = some us
  | [], i, us, hl, h => by
    rw [List.drop_eq_nil_of_le (by simp at hl; omega)]
    exact h
  | e :: es, i, us, hl, h => by
    have hi : i < vs.length := by simp at hl; omega
    rw [List.drop_eq_getElem_cons hi]
    cases e with
    | Name x p =>
      simp only [updGs] at h
      simp only [updNs]
      obtain ⟨u, e1, h⟩ := Option.bind_eq_some_iff.mp h
      obtain ⟨us', e2, h⟩ := Option.map_eq_some_iff.mp h
      have e3 := updGs_old (by simp at hl; omega) e2
      have : vs.getD i .non = vs[i] := by simp [List.getD, hi]
      rw [this] at e1
      rw [e1, e3]
      simp only [Option.bind_some, Option.map_some]
      rw [h]
    | _ => simp only [updGs] at h; cases h
theorem updT_old {N : List Str} {sc : Scope} {asg : Str → Bool} {t : PySem.Expr} {v : PV} {us : List (Nat × PV)} (h : updT N sc asg t v = some us) : updT0 N sc asg t v = some us := by
  unfold updT updTK at h
  split at h
  · obtain ⟨u, e1, h⟩ := Option.bind_eq_some_iff.mp h
    cases h
    cases v <;> (unfold updT0; exact e1)
  · obtain ⟨vs, e1, h⟩ := Option.bind_eq_some_iff.mp h
    obtain ⟨u, e2, h⟩ := Option.bind_eq_some_iff.mp h
    cases h
    unfold unT at e1
    split at e1
    · split at e1
      · cases e1
        rename_i hl
        have := updGs_old (by rw [hl]; simp) e2
        unfold updT0
        exact this
      · cases e1
    · cases e1
  · cases h
def app : List (Nat × PV) → Sl → Sl
  | [], σ => σ
  | u :: us, σ => app us (σ.set u.1 (some u.2))
def compL (b : PV → Option Sl) (t : Sl → Option Bool) (e : Sl → Out) : List PV → Option (List PV)
  | [] => some []
  | x :: r => (b x).bind fun σ => (t σ).bind fun c =>
    if c then (e σ).bind fun y => (compL b t e r).map fun ys => y.1 :: ys else compL b t e r
def compM (step : PV → Option (Option PV)) : List PV → Option (List PV)
  | [] => some []
  | x :: r => (step x).bind fun o => (match o with | some y => (compM step r).map fun ys => y :: ys | none => compM step r)
theorem compM_eq {b : PV → Option Sl} {t : Sl → Option Bool} {e : Sl → Out} {step : PV → Option (Option PV)} (h : ∀ x, step x = (b x).bind fun σ => (t σ).bind fun c => if c then (e σ).bind fun y => some (some y.1) else some none) : ∀ l, compM step l = compL b t e l
  | [] => rfl
  | x :: r => by
    unfold compM compL
    rw [h, compM_eq h r]
    cases b x with
    | none => rfl
    | some σ =>
      simp only [Option.bind_some]
      cases t σ with
      | none => rfl
      | some c =>
        cases c with
        | true =>
          simp only [Option.bind_some, if_true]
          cases e σ <;> rfl
        | false => rfl
def ifsB (f : PySem.Expr → Option Bool) : List PySem.Expr → Option Bool
  | [] => some true
  | [k] => f k
  | _ => none
/-- the names of a comprehension's own, with their places -/
def ownOf (N : List Str) (scope : Scope) : List (Str × Nat) := scope.names.filterMap fun y => match y.2 with
  | .local => (idx N y.1).map fun i => (y.1, i)
  | .cell => (idx N y.1).map fun i => (y.1, i)
  | _ => none
def asgOf (scope : Scope) : Str → Bool := fun x => locB scope x
def wipeP (σ : Sl) : List Nat → Sl
  | [] => σ
  | v :: vs => (wipeP σ vs).set v none
def intsFrom (lo : Int) : Nat → List PV
  | 0 => []
  | n + 1 => .int lo :: intsFrom (lo + 1) n
def seqOf : PV → Option (List PV)
  | .lst xs => if xs.length ≤ big then some xs else none
  | .tup xs => if xs.length ≤ big then some xs else none
  | _ => none
/-- told by its length in bits: a comparison with a great number would be counted down where the number is not known -/
def small62 (i : Int) : Bool := decide (i.natAbs.log2 < 61)

def rng1 : PV → Option (List PV)
  | .int j => if small62 j && decide (j.toNat ≤ big) then some (intsFrom 0 j.toNat) else none
  | _ => none
def rng2 : PV → PV → Option (List PV)
  | .int i, .int j => if small62 i && small62 j && decide ((j - i).toNat ≤ big) then some (intsFrom i (j - i).toNat) else none
  | _, _ => none
def intO : PV → Option (Option Int)
  | .int i => some (some i)
  | _ => none
/-- any (sv = true), all (sv = false) -/
def qAll (sv : Bool) (step : PV → Option Bool) : List PV → Option Bool
  | [] => some (!sv)
  | x :: r => (step x).bind fun b => if b = sv then some sv else qAll sv step r
/-- a name or a call -/
def isNC : PySem.Expr → Bool
  | .Name _ _ => true
  | .Call _ _ _ _ => true
  | _ => false
/-- [::-1] -/
def isRev : Option PySem.Expr → Option PySem.Expr → PySem.Expr → Bool
  | none, none, .UnaryOp .USub (.Constant (.int i) _ _) _ => decide (i = 1)
  | _, _, _ => false
/-- a generator expression's own scope -/
def genS (scope : Scope) : Bool := !scope.isCoroutine && (scope.names.lookup (".0" : Str) == some NameKind.local)
mutual
def evE (T : Tb) (N : List Str) : Nat → Scope → Sl → PySem.Expr → Out
  | 0, _, _, _ => none
  | n + 1, sc, σ, e => match e with
    | .Constant c _ _ => (match c with
      | .none => sh .non | .bool b => sh (.bl b) | .int i => sh (.int i) | .str s => sh (.str s) | _ => none)
    | .Name x _ => if okNm x then (match idx N x with
      | some i => if visB sc x then (match σ[i]? with | some (some v) => sh v | _ => none) else none
      | none => if glB sc x then (T.con x).bind sh else none) else none
    | .Tuple es _ _ => if es.length ≤ big then (evEs (evE T N n sc σ) es).bind fun xs => sh (.tup xs) else none
    | .List es _ => if es.length ≤ big then (evEs (evE T N n sc σ) es).bind fun xs => some (.lst xs, true) else none
    | .BinOp a op b _ => (evE T N n sc σ a).bind fun x => (evE T N n sc σ b).bind fun y => (binop op x.1 y.1).bind fun z => sh z.1
    | .UnaryOp .USub a _ => (evE T N n sc σ a).bind fun x => neg1 x.1
    | .UnaryOp .Not a _ => (evE T N n sc σ a).bind fun x => not1 x.1
    | .BoolOp op es _ => boolV (evE T N n sc σ) op es
    | .Compare a [op] [b] _ => if behindInMarks op b then none else (evE T N n sc σ a).bind fun x => (evE T N n sc σ b).bind fun y => (cmp op x.1 y.1).bind fun c => sh (.bl c)
    | .IfExp c a b _ => (evT T N n sc σ c).bind fun k => if k then evE T N n sc σ a else evE T N n sc σ b
    | .Subscript a (.Slice lo hi none _) _ => (evE T N n sc σ a).bind fun x => (evO T N n sc σ lo).bind fun l => (evO T N n sc σ hi).bind fun h => (getSl x.1 l h).bind fun z => sh z.1
    | .Subscript a (.Slice lo hi (some st) _) _ => if isRev lo hi st then (evE T N n sc σ a).bind fun x => revL x.1 else none
    | .Subscript a b _ => (evE T N n sc σ a).bind fun x => (evE T N n sc σ b).bind fun y => (getIx x.1 y.1).bind fun z => sh z.1
    | .Call (.Name f _) args [] _ => if okNm f && glB sc f then (match T.dfl f args.length with
      | some ds => (evEs (evE T N n sc σ) args).bind fun xs => T.call f (xs ++ ds)
      | none => if isBlt f then (if f = "isinstance" then (match args with
          | [a, .Name t _] => if glB sc t then (tyNames.lookup t).bind fun ty => (evE T N n sc σ a).bind fun x => (clsIs ty x.1).bind fun b => sh (.bl b) else none
          | _ => none) else (match args with | [] => none | _ => (evEs (evE T N n sc σ) args).bind fun xs => bltV f xs)) else if T.gen && (f == "all" || f == "any") then (match args with
          | [.GeneratorExp elt [⟨tg, it, [], z⟩] scope _] => if decide (z = 0) && blkC N sc scope (ownOf N scope) && genS scope && isNC it then (evI T N n sc σ it).bind fun items =>
              (qAll (f == "any") (fun x => updTK N scope (asgOf scope) tg x fun us => (evE (T.wg false) N n scope (app us (wipeP σ ((ownOf N scope).map (·.2)))) elt).bind fun y => blOf y.1) items).bind fun b => sh (.bl b) else none
          | _ => none) else none) else none
    | .Call (.Name f _) args [⟨some k, v, _⟩] _ => if okNm f && glB sc f && T.kwd f args.length [k] then
        (match args with | [] => none | _ => (evEs (evE T N n sc σ) args).bind fun xs => (evE T N n sc σ v).bind fun y => T.call f (xs ++ [y.1])) else none
    | .ListComp elt [⟨tg, it, ifs, z⟩] scope _ => if decide (z = 0) && blkC N sc scope (ownOf N scope) then
        (evI T N n sc σ it).bind fun items =>
          (compM (fun x => updTK N (relS scope sc) (asgOf scope) tg x fun us =>
            (ifsB (evT T N n (relS scope sc) (app us (wipeP σ ((ownOf N scope).map (·.2))))) ifs).bind fun c =>
              if c then (evE T N n (relS scope sc) (app us (wipeP σ ((ownOf N scope).map (·.2)))) elt).bind fun y => some (some y.1) else some none) items).bind fun ys => some (.lst ys, true) else none
    | _ => none
def evT (T : Tb) (N : List Str) : Nat → Scope → Sl → PySem.Expr → Option Bool
  | 0, _, _, _ => none
  | n + 1, sc, σ, e => match e with
    | .Compare a [op] [b] _ => if behindInMarks op b then none else (evE T N n sc σ a).bind fun x => (evE T N n sc σ b).bind fun y => cmp op x.1 y.1
    | .Compare _ _ _ _ => none
    | .BoolOp op es _ => boolT (evT T N n sc σ) op es
    | .UnaryOp .Not a _ => (evT T N n sc σ a).map (!·)
    | .IfExp _ _ _ _ => none
    | e => (evE T N n sc σ e).bind fun x => truth x.1
def evO (T : Tb) (N : List Str) : Nat → Scope → Sl → Option PySem.Expr → Option (Option Int)
  | 0, _, _, _ => none
  | n + 1, sc, σ, e => match e with
    | none => some none
    | some e => (evE T N n sc σ e).bind fun x => intO x.1
/-- what is walked -/
def evI (T : Tb) (N : List Str) : Nat → Scope → Sl → PySem.Expr → Option (List PV)
  | 0, _, _, _ => none
  | n + 1, sc, σ, e => match e with
    | .Set _ _ _ => none
    | .Call (.Name f _) args [] _ => if f = "range" then
        (if glB sc f then (match args with
          | [a] => (evE T N n sc σ a).bind fun x => rng1 x.1
          | [a, b] => (evE T N n sc σ a).bind fun x => (evE T N n sc σ b).bind fun y => rng2 x.1 y.1
          | _ => none) else none)
        else (evE T N n sc σ e).bind fun x => seqOf x.1
    | e => (evE T N n sc σ e).bind fun x => seqOf x.1
end
end Pv

/-! Part C: what the evaluator says of an expression is so -/
namespace Pv
open PySem L2 PySem.Spec PyProof.Rows

structure Cc where
  P : Program
  w : World
  K : PySem.W.Frag
  mg : Str → Option Value
  base : Heap
  N : List Str
  d : Nat
  B : List Addr
  gn : Bool
  tb : Addr
structure CxOk (c : Cc) (sc : Scope) (asg : Str → Bool) (X : Cx) : Prop where
  P : X.prog = c.P
  w : X.w = c.w
  K : X.K = c.K
  mg : X.mg = c.mg
  base : X.base = c.base
  N : X.N = c.N
  sc : X.env.scope = sc
  rm : Room c.d X.A
  calm : X.calm = true
  gen : c.gn = true → Room (c.d + 1) X.A ∧ ∃ cd, X.env.code = .ref cd ∧ GxR.TabB X.base X.mg cd c.tb
  as : ∀ x, asg x = true → X.fn x = true ∨ X.env.scope.names.lookup x = some .local

structure Vrel (K : PySem.W.Frag) (B : List Addr) (F : Hp) (σp : Sl) (σ : L2.St) : Prop where
  len : σp.length = σ.length
  val : ∀ (i : Nat) (x : PV), σp[i]? = some (some x) → ∃ v, σ[i]? = some (some v) ∧ Rep K F v x
  tin : Tin B F
theorem Vrel.mono {K : PySem.W.Frag} {B : List Addr} {F F' : Hp} {σp : Sl} {σ : L2.St} (s : Same F F') (h : Vrel K B F σp σ) : Vrel K B F' σp σ := ⟨h.1, fun i x e =>
  let ⟨v, h1, h2⟩ := h.2 i x e; ⟨v, h1, h2.mono s⟩, h.tin.mono s⟩

def EvE (K : PySem.W.Frag) (B : List Addr) (t : TE) (σp : Sl) (x : PV) (own : Bool) : Prop := ∀ F H σ, Same F H → Vrel K B F σp σ → ∀ Q : VK, (∀ v F' H', Grow F H F' H' → Res K H F' H' v x own → Q v H') → t σ H Q
def EvS (K : PySem.W.Frag) (B : List Addr) (t : TE) (σp : Sl) (x : PV) : Prop := ∀ F H σ, Same F H → Vrel K B F σp σ → ∀ Q : VK, (∀ v F' H', Grow F H F' H' → Rep K F' v x → Q v H') → t σ H Q
def EvT (K : PySem.W.Frag) (B : List Addr) (t : TT) (σp : Sl) (b : Bool) : Prop := ∀ F H σ, Same F H → Vrel K B F σp σ → ∀ Q : Bool → Hp → Prop, (∀ F' H', Grow F H F' H' → Q b H') → t σ H Q
def EvA (K : PySem.W.Frag) (B : List Addr) (t : TA) (σp : Sl) (xs : List PV) : Prop := ∀ F H σ, Same F H → Vrel K B F σp σ → ∀ Q : List V → Hp → Prop, (∀ vs F' H', Grow F H F' H' → Reps K F' vs xs → Q vs H') → t σ H Q
def EvO (K : PySem.W.Frag) (B : List Addr) (t : TO) (σp : Sl) (o : Option Int) : Prop := ∀ F H σ, Same F H → Vrel K B F σp σ → ∀ Q : Option Int → Hp → Prop, (∀ F' H', Grow F H F' H' → Q o H') → t σ H Q
/-- an iterator over vs, whatever else is laid -/
def ItOk (J : It) (F : Hp) (vs : List V) : Prop := ∀ H i, Same F H → (i < vs.length → J.go i H ∧ ∀ x H', J.yld i H x H' → H' = H ∧ vs[i]? = some x) ∧ (vs.length ≤ i → J.stop i H)
def EvI (K : PySem.W.Frag) (B : List Addr) (wi : TI) (σp : Sl) (xs : List PV) : Prop := ∀ F H σ, Same F H → Vrel K B F σp σ → ∀ R : It → Hp → Prop, (∀ J vs F' H', Grow F H F' H' → Reps K F' vs xs → ItOk J F' vs → R J H') → wi σ H R

section
variable {K : PySem.W.Frag} {B : List Addr} {σp : Sl} {x y : PV} {own : Bool}
theorem EvE.s {t : TE} (h : EvE K B t σp x own) : EvS K B t σp x := fun F H σ s vr Q q => h F H σ s vr Q fun v F' H' g r =>
  let ⟨F2, g2, r2⟩ := r.share g; q v F2 H' g2 r2
theorem EvS.e {t : TE} (h : EvS K B t σp x) : EvE K B t σp x false := fun F H σ s vr Q q => h F H σ s vr Q fun v F' H' g r => q v F' H' g (.of r)

def tF : TE := fun _ _ _ => False
def ttF : TT := fun _ _ _ => False
def taF : TA := fun _ _ _ => False
def toF : TO := fun _ _ _ => False
def tiF : TI := fun _ _ _ => False
theorem pe_F {X : Cx} {e : PySem.Expr} : PE X e tF := ⟨fun _ _ _ _ _ _ h => h.elim⟩
theorem pt_F {X : Cx} {e : PySem.Expr} : PT X e ttF := ⟨fun _ _ _ _ _ _ h => h.elim⟩
theorem pw_F {X : Cx} {e : PySem.Expr} : PW X e ttF := ⟨fun _ _ _ _ _ _ _ h => h.elim⟩
theorem pa_F {X : Cx} {es : List PySem.Expr} : PA X es taF := ⟨fun _ _ _ _ _ _ _ h => h.elim⟩
theorem po_F {X : Cx} {e : Option PySem.Expr} : PO X e toF := ⟨fun _ _ _ _ _ _ h => h.elim⟩
theorem pi_F {X : Cx} {tg e : PySem.Expr} : PI X tg e tiF := ⟨fun _ _ _ _ _ _ h => h.elim⟩

/-- sound: the rule's term and what it reads -/
def SE (c : Cc) (sc : Scope) (asg : Str → Bool) (e : PySem.Expr) (f : Sl → Out) : Prop := ∃ t, (∀ X, CxOk c sc asg X → PE X e t) ∧ ∀ σp x own, f σp = some (x, own) → EvE c.K c.B t σp x own
def ST (c : Cc) (sc : Scope) (asg : Str → Bool) (e : PySem.Expr) (f : Sl → Option Bool) : Prop := ∃ t, (∀ X, CxOk c sc asg X → PT X e t) ∧ ∀ σp b, f σp = some b → EvT c.K c.B t σp b
def SA (c : Cc) (sc : Scope) (asg : Str → Bool) (es : List PySem.Expr) (f : Sl → Option (List PV)) : Prop := ∃ t, (∀ X, CxOk c sc asg X → PA X es t) ∧ ∀ σp xs, f σp = some xs → EvA c.K c.B t σp xs
def SO (c : Cc) (sc : Scope) (asg : Str → Bool) (e : Option PySem.Expr) (f : Sl → Option (Option Int)) : Prop := ∃ t, (∀ X, CxOk c sc asg X → PO X e t) ∧ ∀ σp o, f σp = some o → EvO c.K c.B t σp o
def SI (c : Cc) (sc : Scope) (asg : Str → Bool) (e : PySem.Expr) (f : Sl → Option (List PV)) : Prop := ∀ tg, ∃ t, (∀ X, CxOk c sc asg X → PI X tg e t) ∧ ∀ σp xs, f σp = some xs → EvI c.K c.B t σp xs

theorem SE.none {c : Cc} {sc : Scope} {asg : Str → Bool} {e : PySem.Expr} : SE c sc asg e fun _ => none := ⟨tF, fun _ _ => pe_F, fun _ _ _ h => nomatch h⟩
theorem ST.none {c : Cc} {sc : Scope} {asg : Str → Bool} {e : PySem.Expr} : ST c sc asg e fun _ => none := ⟨ttF, fun _ _ => pt_F, fun _ _ h => nomatch h⟩
theorem SI.none {c : Cc} {sc : Scope} {asg : Str → Bool} {e : PySem.Expr} : SI c sc asg e fun _ => none := fun _ => ⟨tiF, fun _ _ => pi_F, fun _ _ h => nomatch h⟩
end

/-! ### arguments -/
section
variable {c : Cc} {sc : Scope} {asg : Str → Bool}
theorem star_of {e : PySem.Expr} {es : List PySem.Expr} {env : Env} (h : ∀ a p, e ≠ .Starred a p) : starEach (e :: es) env = (false, eval e env) :: starEach es env := by
  cases e <;> first | rfl | exact absurd rfl (h _ _)
theorem sa_of {f : Sl → PySem.Expr → Out} : ∀ {es : List PySem.Expr}, (∀ e ∈ es, SE c sc asg e fun σp => f σp e) → SA c sc asg es fun σp => evEs (f σp) es
  | [], _ => ⟨tNil, fun _ _ => pa_nil, fun σp xs h => by
      simp only [evEs] at h; cases h
      intro F H σ s vr Q q
      exact q [] F H (Grow.refl s) .nil⟩
  | e :: es, ih => by
    obtain ⟨te, h1, h2⟩ := ih e (List.mem_cons_self ..)
    obtain ⟨ts, h3, h4⟩ := sa_of (f := f) (es := es) fun e' he => ih e' (List.mem_cons_of_mem _ he)
    by_cases hs : ∃ a p, e = .Starred a p
    · obtain ⟨a, p, rfl⟩ := hs
      exact ⟨taF, fun _ _ => pa_F, fun σp xs h => by simp only [evEs] at h; cases h⟩
    · have hs' : ∀ a p, e ≠ .Starred a p := fun a p q => hs ⟨a, p, q⟩
      refine ⟨tCons te ts, fun X ok => pa_cons (h1 X ok) (h3 X ok) (star_of hs'), fun σp xs h => ?_⟩
      have h' : ((f σp e).bind fun x => (evEs (f σp) es).map fun xs => x.1 :: xs) = some xs := by
        cases e <;> first | exact h | exact absurd rfl (hs' _ _)
      cases e1 : f σp e with
      | none => rw [e1] at h'; cases h'
      | some p =>
        obtain ⟨x, own⟩ := p
        rw [e1] at h'
        cases e2 : evEs (f σp) es with
        | none => rw [e2] at h'; cases h'
        | some ys =>
          rw [e2] at h'
          cases h'
          intro F H σ s vr Q q
          refine (h2 σp x own e1).s F H σ s vr _ fun v F1 H1 g1 r1 => ?_
          refine h4 σp ys e2 F1 H1 σ g1.in_ (vr.mono g1.f) _ fun vs F2 H2 g2 r2 => ?_
          exact q _ F2 H2 (g1.trans g2) (.cons (r1.mono g2.f) r2)

/-! ### names, constants, displays -/
theorem se_const {k : Const} {v : V} {x : PV} {j : Nat} {pos : Pos} (h : ∀ X, PE X (.Constant k j pos) (tC v)) (r : ∀ F, Rep c.K F v x) : SE c sc asg (.Constant k j pos) fun _ => sh x :=
  ⟨tC v, fun X _ => h X, fun σp y own e => by
    cases e
    exact EvS.e fun F H σ s vr Q q => q v F H (Grow.refl s) (r F)⟩
theorem okNm_d {x : Str} (h : okNm x = true) : (x == ("__debug__" : Str)) = false ∧ (x == ("__classdict__" : Str)) = false := by
  unfold okNm at h
  simp only [Bool.and_eq_true, Bool.not_eq_true'] at h
  exact h
theorem idx_get {N : List Str} {x : Str} {i : Nat} (h : idx N x = some i) : N[i]? = some x := by
  unfold idx at h
  rw [List.findIdx?_eq_some_iff_getElem] at h
  obtain ⟨hl, h1, _⟩ := h
  rw [List.getElem?_eq_getElem hl]
  simp only [beq_iff_eq] at h1
  rw [h1]
theorem vis_of {s2 : Scope} {x : Str} (h : visB s2 x = true) : Vis s2 x := by
  unfold visB at h
  split at h
  · exact .inl (by assumption)
  · exact .inr (.inl (by assumption))
  · exact .inr (.inr (by assumption))
  · cases h
theorem loc_of {s2 : Scope} {x : Str} (h : locB s2 x = true) : Loc s2 x := by
  unfold locB at h
  split at h
  · exact .inl (by assumption)
  · exact .inr (by assumption)
  · cases h
theorem gl_of {X : Cx} {x : Str} (h : glB X.env.scope x = true) : Gl X x := by
  unfold glB at h
  split at h
  · assumption
  · cases h

/-- the module's constants -/
def ConOk (c : Cc) (con : Str → Option PV) : Prop := ∀ x p, con x = some p → ∃ u v, c.mg x = some u ∧ RelV v u ∧ ∀ F, Rep c.K F v p
theorem se_name {T : Tb} {x : Str} {pos : Pos} (hc : ConOk c T.con) : SE c sc asg (.Name x pos) fun σ => if okNm x then (match idx c.N x with
      | some i => if visB sc x then (match σ[i]? with | some (some v) => sh v | _ => none) else none
      | none => if glB sc x then (T.con x).bind sh else none) else none := by
  by_cases h0 : okNm x = true
  · obtain ⟨d1, d2⟩ := okNm_d h0
    simp only [h0, if_true]
    cases hi : idx c.N x with
    | some i =>
      simp only
      by_cases hv : visB sc x = true
      · simp only [hv, if_true]
        refine ⟨tVar i, fun X ok => pe_var (by rw [ok.N]; exact idx_get hi) (by rw [ok.sc]; exact vis_of hv) d1 d2, fun σp y own h => ?_⟩
        cases e : σp[i]? with
        | none => simp [e] at h
        | some o =>
          cases o with
          | none => simp [e] at h
          | some v =>
            simp only [e] at h
            cases h
            refine EvS.e fun F H σ s vr Q q => ?_
            obtain ⟨u, h1, h2⟩ := vr.2 i _ e
            exact ⟨u, h1, q u F H (Grow.refl s) h2⟩
      · simp only [hv]
        exact SE.none
    | none =>
      simp only
      by_cases hg : glB sc x = true
      · simp only [hg, if_true]
        cases hx : T.con x with
        | none => exact SE.none
        | some p =>
          obtain ⟨u, v, h1, h2, h3⟩ := hc x p hx
          refine ⟨tC v, fun X ok => pe_glob (gl_of (by rw [ok.sc]; exact hg)) (by rw [ok.mg]; exact h1) h2 d1, fun σp y own h => ?_⟩
          cases h
          exact EvS.e fun F H σ s vr Q q => q v F H (Grow.refl s) (h3 F)
      · simp only [hg]
        exact SE.none
  · simp only [h0]
    exact SE.none

theorem big_line : big ≤ sizeLine := by rw [sizeLine_eq]; decide
theorem evEs_length {f : PySem.Expr → Out} : ∀ {es : List PySem.Expr} {xs : List PV}, evEs f es = some xs → xs.length = es.length
  | [], xs, h => by simp only [evEs] at h; cases h; rfl
  | e :: es, xs, h => by
    by_cases hs : ∃ a p, e = .Starred a p
    · obtain ⟨a, p, rfl⟩ := hs
      simp only [evEs] at h; cases h
    · have hs' : ∀ a p, e ≠ .Starred a p := fun a p q => hs ⟨a, p, q⟩
      have h' : ((f e).bind fun x => (evEs f es).map fun xs => x.1 :: xs) = some xs := by
        cases e <;> first | exact h | exact absurd rfl (hs' _ _)
      cases e1 : f e with
      | none => rw [e1] at h'; cases h'
      | some p =>
        rw [e1] at h'
        cases e2 : evEs f es with
        | none => rw [e2] at h'; cases h'
        | some ys =>
          rw [e2] at h'
          cases h'
          simp [evEs_length e2]
theorem se_tup {es : List PySem.Expr} {k : Nat} {pos : Pos} {f : Sl → Option (List PV)} (h : SA c sc asg es f) (hl : ∀ σp xs, f σp = some xs → xs.length = es.length) :
    SE c sc asg (.Tuple es k pos) fun σ => if es.length ≤ big then (f σ).bind fun xs => sh (.tup xs) else none := by
  by_cases hb : es.length ≤ big
  · simp only [hb, if_true]
    obtain ⟨t, h1, h2⟩ := h
    refine ⟨tTup t, fun X ok => pe_tup (h1 X ok), fun σp x own e => ?_⟩
    cases e1 : f σp with
    | none => simp [e1] at e
    | some xs =>
      simp only [e1, Option.bind_some] at e
      cases e
      refine EvS.e fun F H σ s vr Q q => ?_
      refine h2 σp xs e1 F H σ s vr _ fun vs F1 H1 g1 r1 => ?_
      refine ⟨by rw [r1.length, hl _ _ e1]; exact Nat.le_trans hb big_line, fun p hp => ?_⟩
      have g2 : Grow F1 H1 (upd F1 p (.tup vs)) (upd H1 p (.tup vs)) := Grow.laid g1.in_ hp
      exact q (.ref p) _ _ (g1.trans g2) (.tup (.inl (.inl upd_same)) (r1.mono g2.f))
  · simp only [hb]
    exact SE.none
theorem se_lst {es : List PySem.Expr} {pos : Pos} {f : Sl → Option (List PV)} (h : SA c sc asg es f) (hl : ∀ σp xs, f σp = some xs → xs.length = es.length) :
    SE c sc asg (.List es pos) fun σ => if es.length ≤ big then (f σ).bind fun xs => some (.lst xs, true) else none := by
  by_cases hb : es.length ≤ big
  · simp only [hb, if_true]
    obtain ⟨t, h1, h2⟩ := h
    refine ⟨tLst t, fun X ok => pe_lst (h1 X ok), fun σp x own e => ?_⟩
    cases e1 : f σp with
    | none => simp [e1] at e
    | some xs =>
      simp only [e1, Option.bind_some] at e
      cases e
      intro F H σ s vr Q q
      refine h2 σp xs e1 F H σ s vr _ fun vs F1 H1 g1 r1 => ?_
      refine ⟨by rw [r1.length, hl _ _ e1]; exact Nat.le_trans hb big_line, fun p hp => ?_⟩
      exact q (.ref p) _ _ (g1.trans (Grow.own g1.in_ hp)) (.mine (g1.h.free hp) (g1.in_.free hp) upd_same r1)
  · simp only [hb]
    exact SE.none
end
end Pv

/-! Part D: operators, comparisons, truth, items, slices -/
namespace Pv
open PySem L2 PySem.Spec PyProof.Rows

section
variable {X : Cx}
/-! ### readings that join several kinds -/
def CDivV (i j : Int) : Prop := j ≠ 0 ∧ j.natAbs.log2 < 9000
theorem op_fdivV : OpR X (binaryOp .FloorDiv) (rI CDivV fun i j => .int (i.fdiv j)) := opI fun i j _ _ _ _ _ hc q =>
  floordiv_int hc.1 q (.inl (PyProof.noPylong_of_log2 hc.2))
/-- list + list, both read -/
def rCatS (K : PySem.W.Frag) : R2 := fun x y H Q => ∃ l b xs zs, x = .ref l ∧ y = .ref b ∧ SqL K H l xs ∧ SqL K H b zs ∧ xs.length + zs.length ≤ sizeLine ∧ ∀ p, H p = none → Q (.ref p) (upd H p (.lst (xs ++ zs)))
theorem op_catS : OpR X (binaryOp .Add) (rCatS X.K) := by
  intro pins s σ H x y v u Q I rx ry h
  obtain ⟨l, b, xs, zs, rfl, rfl, hH, hB, hz, q⟩ := h
  cases rx
  cases ry
  obtain ⟨its, r, pl, z⟩ := I.list hH
  obtain ⟨its2, r2, pl2, z2⟩ := I.list hB
  obtain ⟨⟨cls, dd, data, sl⟩, n, ho, hc, hdd, hd⟩ := pl
  obtain ⟨⟨cls2, dd2, data2, sl2⟩, n2, ho2, hc2, hdd2, hd2⟩ := pl2
  simp only at hc hd hdd hc2 hd2 hdd2
  subst hc hd hc2 hd2
  have l1 := r.length
  have l2 := r2.length
  have e : its.toArray ++ its2.toArray = (its ++ its2).toArray := by simp
  refine concat_meets ⟨_, ho, rfl⟩ ⟨_, ho2, rfl⟩ noFill_list_add seq_list_add PySem.F.slot_list_add PySem.F.entry_list_add (PySem.F.args_list_add_2 _ _) (list_addW l b its.toArray its2.toArray n n2 dd dd2 sl sl2 (by simp; omega)) ⟨ho, ho2, ?_⟩
  rw [e]
  exact ⟨.ref _, _, I.lnew (t' := s.toks) (r.append r2) (by rw [List.length_append]; omega), rfl, q _ I.fresh⟩
def rStr : R2 := fun x y H Q => ∃ i j, x = .str i ∧ y = .str j ∧ i.length + j.length ≤ sizeLine ∧ Q (.str (i ++ j)) H
def rF : R2 := fun _ _ _ _ => False
theorem op_F {f : Value → Value → Sem Value} : OpR X f rF := fun _ _ _ _ _ _ _ _ _ _ _ _ h => h.elim
def rOr (r r' : R2) : R2 := fun x y H Q => r x y H Q ∨ r' x y H Q

def rB (K : PySem.W.Frag) : Operator → R2
  | .Add => rOr (rI0 fun i j => .int (i + j)) (rOr rStr (rOr (rCatS K) (rCatT K)))
  | .Sub => rI0 fun i j => .int (i - j)
  | .Mult => rI CMulW fun i j => .int (i * j)
  | .FloorDiv => rI CDivV fun i j => .int (i.fdiv j)
  | .Mod => rI (fun _ j => j ≠ 0) fun i j => .int (i.fmod j)
  | .Pow => rI CPow fun i j => .int (i ^ j.toNat)
  | _ => rF
theorem op_B (op : Operator) : OpR X (binaryOp op) (rB X.K op) := by
  cases op <;> first
    | exact op_F
    | exact OpR.or op_add (OpR.or op_add_str (OpR.or op_catS op_catT))
    | exact op_sub
    | exact op_mulW
    | exact op_fdivV
    | exact op_modN
    | exact op_pow
def rC (K : PySem.W.Frag) : CmpOp → R2
  | .Lt => rI0 fun i j => .bl (decide (i < j))
  | .LtE => rI0 fun i j => .bl (decide (i ≤ j))
  | .Gt => rI0 fun i j => .bl (decide (j < i))
  | .GtE => rI0 fun i j => .bl (decide (j ≤ i))
  | .Eq => rEqD K
  | .NotEq => rNeD K
  | .Is => fun x y H Q => y = .non ∧ Q (.bl (decide (x = .non))) H
  | .IsNot => fun x y H Q => y = .non ∧ Q (.bl (!decide (x = .non))) H
  | .In => rOr (rOr (rIn K false) (rInN K)) (fun x y H Q => ∃ i j, x = .str i ∧ y = .str j ∧ Q (.bl (!(Builtin.Str.occurrences j i 0 j.length 1).isEmpty)) H)
  | .NotIn => rOr (rOr (rIn K true) (rNotInN K)) (fun x y H Q => ∃ i j, x = .str i ∧ y = .str j ∧ Q (.bl (!(!(Builtin.Str.occurrences j i 0 j.length 1).isEmpty))) H)
theorem op_C (hu : X.A.units + 64 < cLine) (op : CmpOp) : OpR X (compareOp op) (rC X.K op) := by
  cases op with
  | Lt => exact op_lt
  | LtE => exact op_le
  | Gt => exact op_gt
  | GtE => exact op_ge
  | Eq => exact op_eqD hu
  | NotEq => exact op_neD hu
  | Is => exact op_isN
  | IsNot => exact op_notN
  | In => exact OpR.or (OpR.or op_in_seq (op_inN hu)) op_in_str
  | NotIn => exact OpR.or (OpR.or op_notIn_seq (op_notInN hu)) L2.op_notIn_str
end

section
variable {K : PySem.W.Frag} {F H : Hp} {v u : V} {x y z : PV} {own : Bool}
theorem len_le {a b : Nat} (h : a + b ≤ big) : a + b ≤ sizeLine := Nat.le_trans h big_line
/-- an operator's reading, from what the evaluator says -/
theorem binop_ok {op : Operator} (h : binop op x y = some (z, own)) (s : Same F H) (rx : Rep K F v x) (ry : Rep K F u y) {Q : VK}
    (q : ∀ w F' H', Grow F H F' H' → Res K H F' H' w z own → Q w H') : rB K op v u H Q := by
  unfold binop at h
  split at h
  · rename_i i j
    cases h; cases rx; cases ry
    exact .inl ⟨i, j, rfl, rfl, q _ F H (Grow.refl s) (.of (.int _))⟩
  · rename_i a b
    split at h
    · rename_i hl
      cases h; cases rx; cases ry
      exact .inr (.inl ⟨a, b, rfl, rfl, len_le hl, q _ F H (Grow.refl s) (.of (.str _))⟩)
    · cases h
  · rename_i a b
    split at h
    · rename_i hl
      cases h
      obtain ⟨p, vs, rfl, h1, r1⟩ := rx.ofLst
      obtain ⟨p2, us, rfl, h2, r2⟩ := ry.ofLst
      refine .inr (.inr (.inl ⟨p, p2, vs, us, rfl, rfl, Same.sqL s h1, Same.sqL s h2, by rw [r1.length, r2.length]; exact len_le hl, fun l hl => ?_⟩))
      exact q _ _ _ (Grow.own s hl) (.mine hl (s.free hl) upd_same (r1.append r2))
    · cases h
  · rename_i a as b bs
    split at h
    · rename_i hl
      cases h
      obtain ⟨p, vs, rfl, h1, r1⟩ := rx.ofTup
      obtain ⟨p2, us, rfl, h2, r2⟩ := ry.ofTup
      have n1 : vs ≠ [] := fun e => by subst e; have := r1.length; simp at this
      have n2 : us ≠ [] := fun e => by subst e; have := r2.length; simp at this
      refine .inr (.inr (.inr ⟨p, p2, vs, us, rfl, rfl, Same.sqT s h1, Same.sqT s h2, n1, by rw [r1.length, r2.length]; exact len_le hl, fun e => absurd e n2, fun _ l hl => ?_⟩))
      have g := Grow.laid (o := .tup (vs ++ us)) s hl
      exact q _ _ _ g (.of (.tup (.inl (.inl upd_same)) ((r1.append r2).mono g.f)))
    · cases h
  · rename_i i j
    cases h; cases rx; cases ry
    exact ⟨i, j, rfl, rfl, q _ F H (Grow.refl s) (.of (.int _))⟩
  · rename_i i j
    split at h
    · rename_i hl
      cases h; cases rx; cases ry
      exact ⟨i, j, rfl, rfl, of_decide_eq_true (p := i.natAbs.log2 + j.natAbs.log2 < 1000000) hl, q _ F H (Grow.refl s) (.of (.int _))⟩
    · cases h
  · rename_i i j
    split at h
    · rename_i hl
      unfold divOk at hl
      rw [Bool.and_eq_true] at hl
      cases h; cases rx; cases ry
      exact ⟨i, j, rfl, rfl, ⟨of_decide_eq_true hl.1, of_decide_eq_true hl.2⟩, q _ F H (Grow.refl s) (.of (.int _))⟩
    · cases h
  · rename_i i j
    split at h
    · cases h
    · rename_i hl
      cases h; cases rx; cases ry
      exact ⟨i, j, rfl, rfl, hl, q _ F H (Grow.refl s) (.of (.int _))⟩
  · rename_i i j
    split at h
    · rename_i hl
      cases h; cases rx; cases ry
      exact ⟨i, j, rfl, rfl, ⟨hl.1, by omega, hl.2.2⟩, q _ F H (Grow.refl s) (.of (.int _))⟩
    · cases h
  · cases h

theorem flatP_ok {w : V} (h : flatP x = some w) (r : Rep K F v x) : v = w := by
  unfold flatP at h
  split at h <;> first
    | (cases h; cases r; rfl)
    | cases h
theorem flatPs_ok : ∀ {xs : List PV} {vs ws : List V}, flatPs xs = some ws → Reps K F vs xs → vs = ws
  | [], vs, ws, h, r => by simp only [flatPs] at h; cases h; cases r; rfl
  | x :: xs, vs, ws, h, r => by
    simp only [flatPs] at h
    cases e1 : flatP x with
    | none => simp [e1] at h
    | some w =>
      cases e2 : flatPs xs with
      | none => simp [e1, e2] at h
      | some us =>
        simp only [e1, e2, Option.bind_some, Option.map_some] at h
        cases h
        cases r with
        | cons r1 r2 => rw [flatP_ok e1 r1, flatPs_ok e2 r2]
theorem isIn_ok {b : Bool} {xs : List PV} {vs : List V} (h : isIn x xs = some b) (r : Rep K F v x) (rs : Reps K F vs xs) : flatV v = true ∧ vs.all flatV = true ∧ b = inV v vs := by
  unfold isIn at h
  cases e1 : flatP x with
  | none => simp [e1] at h
  | some w =>
    cases e2 : flatPs xs with
    | none => simp [e1, e2] at h
    | some us =>
      simp only [e1, e2, Option.bind_some] at h
      have a1 := flatP_ok e1 r
      have a2 := flatPs_ok e2 rs
      subst a1 a2
      split at h
      · rename_i hc
        rw [Bool.and_eq_true] at hc
        cases h
        exact ⟨hc.1, hc.2, rfl⟩
      · cases h
theorem eqD_ok {b : Bool} (h : eqD x y = some b) : SeqAt.shaped x.toD = true ∧ SeqAt.shaped y.toD = true ∧ b = PyData.eqv x.toD y.toD := by
  unfold eqD at h
  split at h
  · rename_i hc
    rw [Bool.and_eq_true] at hc
    cases h
    exact ⟨hc.1, hc.2, rfl⟩
  · cases h
theorem isNon_ok (r : Rep K F v x) (h : x ≠ .non) : decide (v = V.non) = false := by
  cases r <;> first | exact absurd rfl h | rfl
/-! dicts -/
mutual
theorem keyN_ok (s : Same F H) : ∀ {x : PV} {k : NestedKey} {v : V}, keyN x = some k → Rep K F v x → KeyN K H k v
  | .int i, k, v, h, r => by
    simp only [keyN, Option.some.injEq] at h
    subst h
    cases r
    exact .num i
  | .tup xs, k, v, h, r => by
    simp only [keyN] at h
    obtain ⟨ks, e, rfl⟩ := Option.map_eq_some_iff.mp h
    obtain ⟨a, vs, rfl, h1, r1⟩ := r.ofTup
    exact .tup (Same.sqT s h1) (keyNs_ok s e r1)
  | .non, _, _, h, _ => by simp [keyN] at h
  | .bl _, _, _, h, _ => by simp [keyN] at h
  | .str _, _, _, h, _ => by simp [keyN] at h
  | .lst _, _, _, h, _ => by simp [keyN] at h
  | .dct _, _, _, h, _ => by simp [keyN] at h
theorem keyNs_ok (s : Same F H) : ∀ {xs : List PV} {ks : List NestedKey} {vs : List V}, keyNs xs = some ks → Reps K F vs xs → KeyNs K H ks vs
  | [], ks, vs, h, r => by
    simp only [keyNs, Option.some.injEq] at h
    subst h
    cases r
    exact .nil
  | x :: xs, ks, vs, h, r => by
    simp only [keyNs] at h
    obtain ⟨k, e1, h⟩ := Option.bind_eq_some_iff.mp h
    obtain ⟨ks', e2, rfl⟩ := Option.map_eq_some_iff.mp h
    cases r with
    | cons a b => exact .cons (keyN_ok s e1 a) (keyNs_ok s e2 b)
end
theorem keyT_ok (s : Same F H) {k : NestedKey} (h : keyT x = some k) (r : Rep K F v x) : KeyN K H k v ∧ k.depth ≤ 8 ∧ ∃ b, v = .ref b := by
  unfold keyT at h
  split at h
  · obtain ⟨k', e, h⟩ := Option.bind_eq_some_iff.mp h
    split at h
    · rename_i hd
      cases h
      exact ⟨keyN_ok s e r, hd, let ⟨a, _, e, _⟩ := r.ofTup; ⟨a, e⟩⟩
    · cases h
  · cases h
theorem RepsD.keys (s : Same F H) : ∀ {es : List EN} {xs : List PV}, RepsD K F es xs → KeysN K H es
  | _, _, .nil => fun x hx => nomatch hx
  | _, _, .cons hk h hv r t => fun x hx => by
    rcases List.mem_cons.mp hx with rfl | hx
    · obtain ⟨a, b, _⟩ := keyT_ok s hk h
      exact ⟨a, b⟩
    · exact RepsD.keys s t x hx
theorem atKey_cons {k k' : NestedKey} {b : Addr} {u : Value} {es : List EN} : atKey ((k, b, u) :: es) k' = if k = k' then some (b, u) else atKey es k' := by
  unfold atKey
  rw [List.find?_cons]
  by_cases h : k = k'
  · simp [h]
  · simp [h]
theorem RepsD.has : ∀ {es : List EN} {xs : List PV}, RepsD K F es xs → ∀ k, (dGet k xs).isSome = (atKey es k).isSome
  | _, _, .nil, k => rfl
  | _, _, .cons hk h hv r t, k => by
    rw [atKey_cons]
    simp only [dGet, hk, Option.some.injEq]
    split
    · rfl
    · exact RepsD.has t k
theorem RepsD.get : ∀ {es : List EN} {xs : List PV}, RepsD K F es xs → ∀ {k : NestedKey} {y : PV}, dGet k xs = some y → ∃ b u v, atKey es k = some (b, u) ∧ RelV v u ∧ Rep K F v y
  | _, _, .nil, k, y, h => nomatch h
  | _, _, .cons hk h hv r t, k, y, e => by
    rw [atKey_cons]
    simp only [dGet, hk, Option.some.injEq] at e
    split at e
    · cases e
      rename_i hk'
      rw [if_pos hk']
      exact ⟨_, _, _, rfl, hv, r⟩
    · rename_i hk'
      rw [if_neg hk']
      exact RepsD.get t e
theorem RepsD.length : ∀ {es : List EN} {xs : List PV}, RepsD K F es xs → xs.length = 2 * es.length
  | _, _, .nil => rfl
  | _, _, .cons hk h hv r t => by
    simp only [List.length_cons, RepsD.length t]
    omega
theorem RepsD.map {k : NestedKey} {w : V} {uw : Value} {z : PV} (hw : RelV w uw) (rw' : Rep K F w z) : ∀ {es : List EN} {xs : List PV}, RepsD K F es xs → RepsD K F (es.map (putAt k uw)) (dMap k z xs)
  | _, _, .nil => .nil
  | _, _, .cons hk h hv r t => by
    simp only [List.map_cons, dMap, hk, Option.some.injEq]
    unfold putAt
    simp only
    split
    · exact .cons hk h hw rw' (RepsD.map hw rw' t)
    · exact .cons hk h hv r (RepsD.map hw rw' t)
theorem RepsD.snoc {k : NestedKey} {b : Addr} {w : V} {uw : Value} {y z : PV} (hk : keyT y = some k) (hb : Rep K F (.ref b) y) (hw : RelV w uw) (rw' : Rep K F w z) : ∀ {es : List EN} {xs : List PV}, RepsD K F es xs → RepsD K F (es ++ [(k, b, uw)]) (xs ++ [y, z])
  | _, _, .nil => .cons hk hb hw rw' .nil
  | _, _, .cons hk' h hv r t => .cons hk' h hv r (RepsD.snoc hk hb hw rw' t)
theorem RepsD.put {k : NestedKey} {b : Addr} {w : V} {uw : Value} {y z : PV} {es : List EN} {xs : List PV} (t : RepsD K F es xs) (hk : keyT y = some k) (hb : Rep K F (.ref b) y) (hw : RelV w uw) (rw' : Rep K F w z) : RepsD K F (storedH es k b uw) (dPut k y z xs) := by
  unfold storedH dPut
  rw [t.has k]
  split
  · exact t.map hw rw'
  · exact t.snoc hk hb hw rw'
theorem cmp_ok {op : CmpOp} {b : Bool} (h : cmp op x y = some b) (s : Same F H) (rx : Rep K F v x) (ry : Rep K F u y) {Q : VK} (q : Q (.bl b) H) : rC K op v u H Q := by
  unfold cmp at h
  split at h
  · cases h; cases rx; cases ry; exact ⟨_, _, rfl, rfl, q⟩
  · cases h; cases rx; cases ry; exact ⟨_, _, rfl, rfl, q⟩
  · cases h; cases rx; cases ry; exact ⟨_, _, rfl, rfl, q⟩
  · cases h; cases rx; cases ry; exact ⟨_, _, rfl, rfl, q⟩
  · obtain ⟨h1, h2, rfl⟩ := eqD_ok h
    exact ⟨_, _, Rep.toD (SeqAt.canLay_of_shaped h1) (rx.mono s), Rep.toD (SeqAt.canLay_of_shaped h2) (ry.mono s), h1, h2, q⟩
  · cases e : eqD x y with
    | none => simp [e] at h
    | some k =>
      simp only [e, Option.map_some] at h
      cases h
      obtain ⟨h1, h2, rfl⟩ := eqD_ok e
      exact ⟨_, _, Rep.toD (SeqAt.canLay_of_shaped h1) (rx.mono s), Rep.toD (SeqAt.canLay_of_shaped h2) (ry.mono s), h1, h2, q⟩
  · cases h; cases rx; cases ry; exact ⟨rfl, q⟩
  · rename_i hn
    cases h; cases ry
    refine ⟨rfl, ?_⟩
    rw [isNon_ok rx (fun e => by subst e; simp at hn)]
    exact q
  · cases h; cases rx; cases ry; exact ⟨rfl, q⟩
  · rename_i hn
    cases h; cases ry
    refine ⟨rfl, ?_⟩
    rw [isNon_ok rx (fun e => by subst e; simp at hn)]
    exact q
  · obtain ⟨p, vs, rfl, h1, r1⟩ := ry.ofLst
    obtain ⟨f1, f2, rfl⟩ := isIn_ok h rx r1
    exact .inl (.inl ⟨p, vs, rfl, .inl (Same.sqL s h1), f1, f2, q⟩)
  · obtain ⟨p, vs, rfl, h1, r1⟩ := ry.ofTup
    obtain ⟨f1, f2, rfl⟩ := isIn_ok h rx r1
    exact .inl (.inl ⟨p, vs, rfl, .inr (Same.sqT s h1), f1, f2, q⟩)
  · rename_i xs
    cases e : isIn x xs with
    | none => simp [e] at h
    | some k =>
      simp only [e, Option.map_some] at h
      cases h
      obtain ⟨p, vs, rfl, h1, r1⟩ := ry.ofLst
      obtain ⟨f1, f2, rfl⟩ := isIn_ok e rx r1
      exact .inl (.inl ⟨p, vs, rfl, .inl (Same.sqL s h1), f1, f2, q⟩)
  · rename_i xs
    cases e : isIn x xs with
    | none => simp [e] at h
    | some k =>
      simp only [e, Option.map_some] at h
      cases h
      obtain ⟨p, vs, rfl, h1, r1⟩ := ry.ofTup
      obtain ⟨f1, f2, rfl⟩ := isIn_ok e rx r1
      exact .inl (.inl ⟨p, vs, rfl, .inr (Same.sqT s h1), f1, f2, q⟩)
  · rename_i xs
    obtain ⟨k, e1, e2⟩ := Option.map_eq_some_iff.mp h
    obtain ⟨a, es, rfl, h1, r1⟩ := ry.ofDct
    obtain ⟨k1, k2, b', rfl⟩ := keyT_ok s e1 rx
    refine .inl (.inr ⟨a, es, b', k, rfl, ((s _ _ h1).get fun ps z => (nomatch z)), r1.keys s, rfl, k1, k2, ?_⟩)
    rw [← r1.has k, e2]
    exact q
  · rename_i xs
    obtain ⟨b0, h, e0⟩ := Option.map_eq_some_iff.mp h
    obtain ⟨k, e1, e2⟩ := Option.map_eq_some_iff.mp h
    obtain ⟨a, es, rfl, h1, r1⟩ := ry.ofDct
    obtain ⟨k1, k2, b', rfl⟩ := keyT_ok s e1 rx
    refine .inl (.inr ⟨a, es, b', k, rfl, ((s _ _ h1).get fun ps z => (nomatch z)), r1.keys s, rfl, k1, k2, ?_⟩)
    rw [← r1.has k, e2, e0]
    exact q
  · cases h; cases rx; cases ry; exact .inr ⟨_, _, rfl, rfl, q⟩
  · cases h; cases rx; cases ry; exact .inr ⟨_, _, rfl, rfl, q⟩
  · cases h

theorem isEmpty_reps {vs : List V} {xs : List PV} (r : Reps K F vs xs) : vs.isEmpty = xs.isEmpty := by cases r <;> rfl
theorem truth_ok {b : Bool} (h : truth x = some b) (s : Same F H) (r : Rep K F v x) : TruV K v H b := by
  unfold truth at h
  split at h
  · cases h; cases r; rfl
  · cases h; cases r; rfl
  · cases h; cases r; rfl
  · split at h
    · rename_i hl
      cases h; cases r; exact ⟨Nat.le_trans hl big_line, rfl⟩
    · cases h
  · cases h
    obtain ⟨p, vs, rfl, h1, r1⟩ := r.ofLst
    exact .inl ⟨vs, Same.sqL s h1, by rw [isEmpty_reps r1]⟩
  · cases h
    obtain ⟨p, vs, rfl, h1, r1⟩ := r.ofTup
    exact .inr (.inl ⟨vs, Same.sqT s h1, by rw [isEmpty_reps r1]⟩)
  · cases h

theorem atI_reps {vs : List V} {xs : List PV} {i : Int} {y : PV} (r : Reps K F vs xs) (h : atI xs i = some y) : ∃ w, atI vs i = some w ∧ Rep K F w y := by
  unfold atI at h ⊢
  rw [r.length]
  cases e : ixN xs.length i with
  | none => simp [e] at h
  | some j =>
    simp only [e, Option.bind_some] at h ⊢
    exact r.get h
def rIxA (K : PySem.W.Frag) : R2 := fun x y H Q => rIx K x y H Q ∨ rIxN K x y H Q
theorem ix_all {X : Cx} (hu : X.A.units + 64 < cLine) : IxR X (rIxA X.K) := ix_seq.or (ix_dn hu)
theorem getIx_ok (h : getIx x y = some (z, own)) (s : Same F H) (rx : Rep K F v x) (ry : Rep K F u y) {Q : VK} (q : ∀ w, Rep K F w z → Q w H) : rIxA K v u H Q ∧ own = false := by
  unfold getIx at h
  split at h
  · rename_i xs i
    cases e : atI xs i with
    | none => simp [e] at h
    | some w =>
      simp only [e, Option.bind_some] at h
      cases h
      obtain ⟨p, vs, rfl, h1, r1⟩ := rx.ofLst
      cases ry
      obtain ⟨w', h2, r2⟩ := atI_reps r1 e
      exact ⟨.inl (.inl ⟨p, vs, i, w', rfl, rfl, Same.sqL s h1, h2, q _ r2⟩), rfl⟩
  · rename_i xs i
    cases e : atI xs i with
    | none => simp [e] at h
    | some w =>
      simp only [e, Option.bind_some] at h
      cases h
      obtain ⟨p, vs, rfl, h1, r1⟩ := rx.ofTup
      cases ry
      obtain ⟨w', h2, r2⟩ := atI_reps r1 e
      exact ⟨.inl (.inr (.inl ⟨p, vs, i, w', rfl, rfl, Same.sqT s h1, h2, q _ r2⟩)), rfl⟩
  · rename_i z' i
    split at h
    · rename_i hl
      cases e : atI z'.cps.toList i with
      | none => simp [e] at h
      | some w =>
        simp only [e, Option.bind_some] at h
        cases h
        cases rx; cases ry
        exact ⟨.inl (.inr (.inr ⟨z', i, w, rfl, rfl, Nat.le_trans hl big_line, e, q _ (.str _)⟩)), rfl⟩
    · cases h
  · rename_i xs
    obtain ⟨k, e1, h⟩ := Option.bind_eq_some_iff.mp h
    obtain ⟨w, e2, h⟩ := Option.bind_eq_some_iff.mp h
    cases h
    obtain ⟨a, es, rfl, h1, r1⟩ := rx.ofDct
    obtain ⟨k1, k2, b', rfl⟩ := keyT_ok s e1 ry
    obtain ⟨ka, u', v', g1, g2, g3⟩ := r1.get e2
    exact ⟨.inr ⟨a, es, b', k, ka, u', v', rfl, ((s _ _ h1).get fun ps z => (nomatch z)), r1.keys s, rfl, k1, k2, g1, g2, q _ g3⟩, rfl⟩
  · cases h

def rSl (K : PySem.W.Frag) : V → Option Int → Option Int → Hp → VK → Prop := fun x lo hi H Q => rSlL K x lo hi H Q ∨ rSlT K x lo hi H Q
theorem sl_seq {X : Cx} : SlR X (rSl X.K) := SlR.or sl_list sl_tup
theorem getSl_ok {lo hi : Option Int} (h : getSl x lo hi = some (z, own)) (s : Same F H) (rx : Rep K F v x) {Q : VK} (q : ∀ w F' H', Grow F H F' H' → Res K H F' H' w z own → Q w H') : rSl K v lo hi H Q := by
  unfold getSl at h
  split at h
  · rename_i xs
    cases h
    obtain ⟨p, vs, rfl, h1, r1⟩ := rx.ofLst
    refine .inl ⟨p, vs, rfl, Same.sqL s h1, fun l hl => ?_⟩
    refine q _ _ _ (Grow.own s hl) (.mine hl (s.free hl) upd_same ?_)
    unfold cutV cutP
    rw [r1.length]
    exact (r1.drop _).take _
  · rename_i xs
    split at h
    · cases h
    · rename_i hc
      cases h
      obtain ⟨p, vs, rfl, h1, r1⟩ := rx.ofTup
      refine .inr ⟨p, vs, rfl, Same.sqT s h1, by rw [r1.length]; exact hc, fun l hl => ?_⟩
      have g := Grow.laid (o := .tup (cutV vs lo hi)) s hl
      have e : Reps K F (cutV vs lo hi) (cutP xs lo hi) := by
        unfold cutV cutP
        rw [r1.length]
        exact (r1.drop _).take _
      exact q _ _ _ g (.of (.tup (.inl (.inl upd_same)) (e.mono g.f)))
  · cases h
end
end Pv

/-! Part E: calls, comprehensions, all expressions -/
namespace Pv
open PySem L2 PySem.Spec PyProof.Rows

/-! ### calls of defs -/
/-- a def's promise by the evaluator's answer -/
def spOf (K : PySem.W.Frag) (B : List Addr) (n : Nat) (g : List PV → Option (PV × Bool)) : Sp := fun vs H Q _ => vs.length = n ∧ ∃ F xs x own, (Same F H ∧ Tin B F) ∧ Reps K F vs xs ∧ g xs = some (x, own) ∧
  ∀ v F' H', Grow F H F' H' → Res K H F' H' v x own → Q v H'
/-- the defs stand behind the top and keep their promises -/
structure TabOk (c : Cc) (T : Tb) : Prop where
  con : ConOk c T.con
  pos : ∀ g n ds, T.dfl g n = some ds → ∃ f fd ps dvs us, c.mg g = some (.ref f) ∧ PySem.W.keepIn c.K (.ref f) = true ∧ FnOk c.P c.w c.K c.mg c.base CX0 c.d f fd ps (spOf c.K c.B ps.length (T.raw g)) ∧ Binds c.K fd ps us ∧ Vals dvs us ∧
    (∀ F, Reps c.K F dvs ds) ∧ n + ds.length = ps.length
  key : ∀ g n ks, T.kwd g n ks = true → ∃ f fd ps g1 g2, c.mg g = some (.ref f) ∧ PySem.W.keepIn c.K (.ref f) = true ∧ FnOk c.P c.w c.K c.mg c.base CX0 c.d f fd ps (spOf c.K c.B ps.length (T.raw g)) ∧ KBn c.K fd ps n ks g1 g2 ∧
    (∀ vs zs, g2 vs zs = vs ++ zs) ∧ n + ks.length = ps.length
  blt : ∀ x, isBlt x = true → c.mg x = none
  cls : ∀ x ty, tyNames.lookup x = some ty → c.mg x = none
  nd : c.N.Nodup
  gen : T.gen = true → (c.gn = true ∧ c.tb ∈ c.B) ∧ c.mg "all" = none ∧ c.mg "any" = none

theorem plain_any {es : List PySem.Expr} {env : Env} {pos : Pos} (h : ∀ e ∈ es, ∀ a p, e ≠ .Starred a p) : (backTo pos (starEach es env)).any (·.1) = false := by
  induction es with
  | nil => rfl
  | cons e es ih =>
    rw [star_of (h e (List.mem_cons_self ..))]
    have := ih fun e' he => h e' (List.mem_cons_of_mem _ he)
    show ((false, _) :: backTo pos (starEach es env)).any (·.1) = false
    rw [List.any_cons, this]
    rfl
theorem noStar : ∀ {f : PySem.Expr → Out} {es : List PySem.Expr} {xs : List PV}, evEs f es = some xs → ∀ e ∈ es, ∀ a p, e ≠ .Starred a p
  | f, e :: es, xs, h, e', he, a, p => by
    rintro rfl
    rcases List.mem_cons.mp he with rfl | he
    · simp only [evEs] at h; cases h
    · by_cases hs : ∃ a p, e = .Starred a p
      · obtain ⟨a, p, rfl⟩ := hs
        simp only [evEs] at h; cases h
      · have hs' : ∀ a p, e ≠ .Starred a p := fun a p q => hs ⟨a, p, q⟩
        have h' : ((f e).bind fun x => (evEs f es).map fun xs => x.1 :: xs) = some xs := by
          cases e <;> first | exact h | exact absurd rfl (hs' _ _)
        cases e1 : f e with
        | none => rw [e1] at h'; cases h'
        | some q =>
          rw [e1] at h'
          cases e2 : evEs f es with
          | none => rw [e2] at h'; cases h'
          | some ys => exact noStar e2 _ he a p rfl
def starB (es : List PySem.Expr) : Bool := es.any fun e => match e with | .Starred _ _ => true | _ => false
theorem starB_no {es : List PySem.Expr} (h : starB es = false) : ∀ e ∈ es, ∀ a p, e ≠ .Starred a p := by
  rintro e he a p rfl
  unfold starB at h
  rw [List.any_eq_false] at h
  exact h _ he rfl
theorem starB_ev {f : PySem.Expr → Out} {es : List PySem.Expr} {xs : List PV} (h : evEs f es = some xs) : starB es = false := by
  unfold starB
  rw [List.any_eq_false]
  intro e he
  have := noStar h e he
  cases e <;> first | exact absurd rfl (this _ _) | simp

section
variable {c : Cc} {sc : Scope} {asg : Str → Bool} {T : Tb}
theorem ea_nil {K : PySem.W.Frag} {σp : Sl} : EvA K B tNil σp [] := fun F H σ s vr Q q => q [] F H (Grow.refl s) .nil
theorem sa_nil : SA c sc asg [] fun _ => some [] := ⟨tNil, fun _ _ => pa_nil, fun σp xs h => by
  cases h
  intro F H σ s vr Q q
  exact q [] F H (Grow.refl s) .nil⟩
theorem call_ev {f : Str} {t : TA} {ps : List Str} {dvs : List V} {ds xs : List PV} {σp : Sl} {y : PV} {own : Bool} {E : XK} (a2 : EvA c.K c.B t σp xs) (h6 : ∀ F, Reps c.K F dvs ds) (hl : xs.length + ds.length = ps.length)
    (e : T.raw f (xs ++ ds) = some (y, own)) : EvE c.K c.B (tCall (spOf c.K c.B ps.length (T.raw f)) dvs E t) σp y own := by
  intro F H σ s vr Q q
  refine a2 F H σ s vr _ fun vs F1 H1 g1 r1 => ?_
  refine ⟨?_, F1, xs ++ ds, y, own, ⟨g1.in_, vr.tin.mono g1.f⟩, r1.append (h6 F1), e, fun v F' H' g2 r2 => q v F' H' (g1.trans g2) (r2.mono g1.h)⟩
  rw [List.length_append, r1.length, (h6 F1).length]
  exact hl
theorem SE.map {e : PySem.Expr} {f g : Sl → Out} (h : SE c sc asg e f) (q : ∀ σ x own, g σ = some (x, own) → ∃ o, f σ = some (x, o) ∧ (own = true → o = true)) : SE c sc asg e g := by
  obtain ⟨t, a, b⟩ := h
  refine ⟨t, a, fun σp x own e => ?_⟩
  obtain ⟨o, e1, e2⟩ := q σp x own e
  cases own with
  | true => rw [e2 rfl] at e1; exact b σp x true e1
  | false => exact (b σp x o e1).s.e
theorem call_raw {f : Str} {xs : List PV} {x : PV} {own : Bool} (h : T.call f xs = some (x, own)) : ∃ o, T.raw f xs = some (x, o) ∧ (own = true → o = true) := by
  unfold Tb.call at h
  split at h
  · cases e : T.raw f xs with
    | none => simp [e, ownO] at h
    | some p =>
      obtain ⟨y, o⟩ := p
      rw [e] at h
      cases y <;> cases o <;> simp [ownO] at h
      obtain ⟨rfl, rfl⟩ := h
      exact ⟨true, rfl, fun _ => rfl⟩
  · cases e : T.raw f xs with
    | none => simp [e, fstO] at h
    | some p =>
      obtain ⟨y, o⟩ := p
      rw [e] at h
      simp [fstO] at h
      obtain ⟨rfl, rfl⟩ := h
      exact ⟨o, rfl, fun h => by cases h⟩
theorem se_call0 {f : Str} {fp pos : Pos} {es : List PySem.Expr} {ds : List PV} {g : Sl → Option (List PV)} (ok : TabOk c T) (h0 : okNm f = true) (hg : glB sc f = true) (hd : T.dfl f es.length = some ds) (h : SA c sc asg es g)
    (hl : ∀ σp xs, g σp = some xs → xs.length = es.length ∧ starB es = false) : SE c sc asg (.Call (.Name f fp) es [] pos) fun σ => (g σ).bind fun xs => T.raw f (xs ++ ds) := by
  obtain ⟨fa, fd, ps, dvs, us, h1, h2, h3, h4, h5, h6, h7⟩ := ok.pos f es.length ds hd
  obtain ⟨t, a1, a2⟩ := h
  have d0 := (okNm_d h0).1
  have base : ∀ X, CxOk c sc asg X → FnOk X.prog X.w X.K X.mg X.base CX0 c.d fa fd ps (spOf c.K c.B ps.length (T.raw f)) ∧ Gl X f ∧ X.mg f = some (.ref fa) ∧ PySem.W.keepIn X.K (.ref fa) = true ∧ Binds X.K fd ps us := fun X x =>
    ⟨by rw [x.P, x.w, x.K, x.mg, x.base]; exact h3, gl_of (by rw [x.sc]; exact hg), by rw [x.mg]; exact h1, by rw [x.K]; exact h2, by rw [x.K]; exact h4⟩
  cases es with
  | nil =>
    refine ⟨tCall (spOf c.K c.B ps.length (T.raw f)) dvs E0 tNil, fun X x => ?_, fun σp y own e => ?_⟩
    · obtain ⟨F, G, M, KK, B⟩ := base X x
      exact pe_call0 F x.rm G M KK B h5 pass0 d0
    · cases e1 : g σp with
      | none => simp [e1] at e
      | some xs =>
        simp only [e1, Option.bind_some] at e
        have hx : xs = [] := List.eq_nil_of_length_eq_zero (hl _ _ e1).1
        subst hx
        exact call_ev (xs := []) ea_nil h6 (by rw [← h7]; rfl) e
  | cons e0 es =>
    by_cases hs : starB (e0 :: es) = false
    · refine ⟨tCall (spOf c.K c.B ps.length (T.raw f)) dvs E0 t, fun X x => ?_, fun σp y own e => ?_⟩
      · obtain ⟨F, G, M, KK, B⟩ := base X x
        exact pe_call F x.rm G M KK B h5 pass0 (a1 X x) d0 (star_of (starB_no hs e0 (List.mem_cons_self ..))) (plain_any fun e' he => starB_no hs e' (List.mem_cons_of_mem _ he))
      · cases e1 : g σp with
        | none => simp [e1] at e
        | some xs =>
          simp only [e1, Option.bind_some] at e
          exact call_ev (a2 σp xs e1) h6 (by rw [(hl _ _ e1).1]; exact h7) e
    · refine ⟨tF, fun _ _ => pe_F, fun σp y own e => ?_⟩
      cases e1 : g σp with
      | none => simp [e1] at e
      | some xs => exact absurd (hl _ _ e1).2 hs
theorem se_call {f : Str} {fp pos : Pos} {es : List PySem.Expr} {ds : List PV} {g : Sl → Option (List PV)} (ok : TabOk c T) (h0 : okNm f = true) (hg : glB sc f = true) (hd : T.dfl f es.length = some ds) (h : SA c sc asg es g)
    (hl : ∀ σp xs, g σp = some xs → xs.length = es.length ∧ starB es = false) : SE c sc asg (.Call (.Name f fp) es [] pos) fun σ => (g σ).bind fun xs => T.call f (xs ++ ds) :=
  (se_call0 ok h0 hg hd h hl).map fun σ x own e => by
    obtain ⟨xs, e1, e2⟩ := Option.bind_eq_some_iff.mp e
    obtain ⟨o, e3, e4⟩ := call_raw e2
    exact ⟨o, by rw [e1]; exact e3, e4⟩
/-- f(e, .., k = v) -/
theorem se_callK0 {f k : Str} {fp pos kp : Pos} {e0 v : PySem.Expr} {es : List PySem.Expr} {g : Sl → Option (List PV)} {gv : Sl → Out} (ok : TabOk c T) (h0 : okNm f = true) (hg : glB sc f = true) (hd : T.kwd f (e0 :: es).length [k] = true) (h : SA c sc asg (e0 :: es) g) (hv : SE c sc asg v gv)
    (hl : ∀ σp xs, g σp = some xs → xs.length = (e0 :: es).length ∧ starB (e0 :: es) = false) : SE c sc asg (.Call (.Name f fp) (e0 :: es) [⟨some k, v, kp⟩] pos) fun σ => (g σ).bind fun xs => (gv σ).bind fun y => T.raw f (xs ++ [y.1]) := by
  obtain ⟨fa, fd, ps, g1, g2, h1, h2, h3, h4, h5, h6⟩ := ok.key f (e0 :: es).length [k] hd
  obtain ⟨t, a1, a2⟩ := h
  obtain ⟨tv, b1, b2⟩ := hv
  have d0 := (okNm_d h0).1
  by_cases hs : starB (e0 :: es) = false
  · refine ⟨tCallN (e0 :: es).length [k].length (spOf c.K c.B ps.length (T.raw f)) g2 E0 t (tCons tv tNil), fun X x => ?_, fun σp y own e => ?_⟩
    · have F : FnOk X.prog X.w X.K X.mg X.base CX0 c.d fa fd ps (spOf c.K c.B ps.length (T.raw f)) := by rw [x.P, x.w, x.K, x.mg, x.base]; exact h3
      have B : KBn X.K fd ps (e0 :: es).length [k] g1 g2 := by rw [x.K]; exact h4
      refine pe_callN F x.rm (gl_of (by rw [x.sc]; exact hg)) (by rw [x.mg]; exact h1) (by rw [x.K]; exact h2) B pass0 (a1 X x) (pk_cons (b1 X x) pk_nil) rfl rfl d0 (star_of (starB_no hs e0 (List.mem_cons_self ..))) ?_
      rw [plain_any (starB_no hs)]
      rfl
    · cases e1 : g σp with
      | none => simp [e1] at e
      | some xs =>
        cases e2 : gv σp with
        | none => simp [e1, e2] at e
        | some z =>
          simp only [e1, e2, Option.bind_some] at e
          intro F H σ s vr Q q
          refine a2 σp xs e1 F H σ s vr _ fun vs F1 H1 g1 r1 => ?_
          refine (b2 σp z.1 z.2 e2).s F1 H1 σ g1.in_ (vr.mono g1.f) _ fun w F2 H2 g2' r2 => ?_
          refine ⟨by rw [r1.length]; exact (hl _ _ e1).1, rfl, ?_⟩
          rw [h5]
          refine ⟨?_, F2, xs ++ [z.1], y, own, ⟨g2'.in_, (vr.tin.mono g1.f).mono g2'.f⟩, (r1.mono g2'.f).append (.cons r2 .nil), e, fun v F' H' g3 r3 => q v F' H' ((g1.trans g2').trans g3) (r3.mono (g1.h.trans g2'.h))⟩
          rw [List.length_append, r1.length, (hl _ _ e1).1]
          exact h6
  · refine ⟨tF, fun _ _ => pe_F, fun σp y own e => ?_⟩
    cases e1 : g σp with
    | none => simp [e1] at e
    | some xs => exact absurd (hl _ _ e1).2 hs

theorem se_callK {f k : Str} {fp pos kp : Pos} {e0 v : PySem.Expr} {es : List PySem.Expr} {g : Sl → Option (List PV)} {gv : Sl → Out} (ok : TabOk c T) (h0 : okNm f = true) (hg : glB sc f = true) (hd : T.kwd f (e0 :: es).length [k] = true) (h : SA c sc asg (e0 :: es) g) (hv : SE c sc asg v gv)
    (hl : ∀ σp xs, g σp = some xs → xs.length = (e0 :: es).length ∧ starB (e0 :: es) = false) : SE c sc asg (.Call (.Name f fp) (e0 :: es) [⟨some k, v, kp⟩] pos) fun σ => (g σ).bind fun xs => (gv σ).bind fun y => T.call f (xs ++ [y.1]) :=
  (se_callK0 ok h0 hg hd h hv hl).map fun σ x own e => by
    obtain ⟨xs, e1, e2⟩ := Option.bind_eq_some_iff.mp e
    obtain ⟨y, e5, e2⟩ := Option.bind_eq_some_iff.mp e2
    obtain ⟨o, e3, e4⟩ := call_raw e2
    exact ⟨o, by rw [e1, e5]; exact e3, e4⟩
/-! ### calls of built-ins -/
def rLen (K : PySem.W.Frag) : List V → Hp → VK → Prop := fun xs H Q => (∃ p ys, xs = [.ref p] ∧ (SqL K H p ys ∨ SqT K H p ys) ∧ Q (.int ys.length) H) ∨ (∃ z, xs = [.str z] ∧ z.length ≤ sizeLine ∧ Q (.int z.length) H)
theorem cr_len {X : Cx} : CallR X (.builtin "len") (rLen X.K) := CallR.or call_len_seq call_len_str
inductive BR (K : PySem.W.Frag) : Str → (Value) → (List V → Hp → VK → Prop) → Prop
  | len : BR K "len" (.builtin "len") (rLen K)
  | abs : BR K "abs" (.builtin "abs") (fun xs H Q => ∃ i, xs = [.int i] ∧ Q (.int (if i < 0 then -i else i)) H)
  | int : BR K "int" (.type "int") (fun xs H Q => (∃ i, xs = [.int i] ∧ Q (.int i) H) ∨ ∃ k, xs = [.bl k] ∧ Q (.int (if k then 1 else 0)) H)
  | list : BR K "list" (.type "list") (fun xs H Q => ∃ p ys, xs = [.ref p] ∧ (SqL K H p ys ∨ SqT K H p ys) ∧ ∀ l, H l = none → Q (.ref l) (upd H l (.lst ys)))
  | tuple : BR K "tuple" (.type "tuple") (fun xs H Q => ∃ p ys, xs = [.ref p] ∧ ((SqL K H p ys ∧ ∀ l, H l = none → Q (.ref l) (upd H l (.tup ys))) ∨ (SqT K H p ys ∧ Q (.ref p) H)))
  | str : BR K "str" (.type "str") (fun xs H Q => ∃ i, xs = [.int i] ∧ i.natAbs.log2 < 1920 ∧ Q (.str (toString i)) H)
theorem BR.pe {X : Cx} {f : Str} {b : Value} {r : List V → Hp → VK → Prop} {fp pos : Pos} {e0 : PySem.Expr} {es : List PySem.Expr} {t : TA} (h : BR X.K f b r) (hg : Gl X f) (hm : X.mg f = none) (ha : PA X (e0 :: es) t)
    (he : starEach (e0 :: es) X.env = (false, eval e0 X.env) :: starEach es X.env) (hpl : (backTo pos (starEach es X.env)).any (·.1) = false) : PE X (.Call (.Name f fp) (e0 :: es) [] pos) (tCB r t) := by
  cases h with
  | len => exact pe_callB cr_len hg hm PySem.boot_len ha (by decide +kernel) (by decide +kernel) he hpl
  | abs => exact pe_callB call_abs hg hm (by decide +kernel) ha (by decide +kernel) (by decide +kernel) he hpl
  | int => exact pe_callTy call_int1 hg hm (by decide +kernel) ha (by decide +kernel) (by decide +kernel) he hpl
  | list => exact pe_callTy call_list_of hg hm (by decide +kernel) ha (by decide +kernel) (by decide +kernel) he hpl
  | tuple => exact pe_callTy call_tuple_of hg hm (by decide +kernel) ha (by decide +kernel) (by decide +kernel) he hpl
  | str => exact pe_callTy call_str_int hg hm (by decide +kernel) ha (by decide +kernel) (by decide +kernel) he hpl
theorem blt_rule {K : PySem.W.Frag} {f : Str} {xs : List PV} {z : PV} {own : Bool} (h : blt f xs = some (z, own)) : ∃ b r, BR K f b r := by
  unfold blt at h
  split at h; · subst_vars; exact ⟨_, _, .len⟩
  split at h; · subst_vars; exact ⟨_, _, .abs⟩
  split at h; · subst_vars; exact ⟨_, _, .int⟩
  split at h; · subst_vars; exact ⟨_, _, .list⟩
  split at h; · subst_vars; exact ⟨_, _, .tuple⟩
  split at h; · subst_vars; exact ⟨_, _, .str⟩
  cases h
theorem blt_ok {K : PySem.W.Frag} {F H : Hp} {f : Str} {xs : List PV} {vs : List V} {z : PV} {own : Bool} {b : Value} {r : List V → Hp → VK → Prop} (hb : BR K f b r) (h : blt f xs = some (z, own)) (s : Same F H) (rs : Reps K F vs xs) {Q : VK}
    (q : ∀ w F' H', Grow F H F' H' → Res K H F' H' w z own → Q w H') : r vs H Q := by
  cases hb with
  | len =>
    unfold blt at h
    rw [if_pos rfl] at h
    split at h
    · cases h; cases rs with | cons r1 r2 => cases r2; obtain ⟨p, us, rfl, h1, r1⟩ := r1.ofLst; exact .inl ⟨p, us, rfl, .inl (Same.sqL s h1), by rw [r1.length]; exact q _ F H (Grow.refl s) (.of (.int _))⟩
    · cases h; cases rs with | cons r1 r2 => cases r2; obtain ⟨p, us, rfl, h1, r1⟩ := r1.ofTup; exact .inl ⟨p, us, rfl, .inr (Same.sqT s h1), by rw [r1.length]; exact q _ F H (Grow.refl s) (.of (.int _))⟩
    · split at h
      · rename_i hl
        cases h; cases rs with | cons r1 r2 => cases r2; cases r1; exact .inr ⟨_, rfl, Nat.le_trans hl big_line, q _ F H (Grow.refl s) (.of (.int _))⟩
      · cases h
    · cases h
  | abs =>
    unfold blt at h
    rw [if_neg (by decide +kernel), if_pos rfl] at h
    split at h
    · cases h; cases rs with | cons r1 r2 => cases r2; cases r1; exact ⟨_, rfl, q _ F H (Grow.refl s) (.of (.int _))⟩
    · cases h
  | int =>
    unfold blt at h
    rw [if_neg (by decide +kernel), if_neg (by decide +kernel), if_pos rfl] at h
    split at h
    · cases h; cases rs with | cons r1 r2 => cases r2; cases r1; exact .inl ⟨_, rfl, q _ F H (Grow.refl s) (.of (.int _))⟩
    · cases h; cases rs with | cons r1 r2 => cases r2; cases r1; exact .inr ⟨_, rfl, q _ F H (Grow.refl s) (.of (.int _))⟩
    · cases h
  | list =>
    unfold blt at h
    rw [if_neg (by decide +kernel), if_neg (by decide +kernel), if_neg (by decide +kernel), if_pos rfl] at h
    split at h
    · cases h; cases rs with | cons r1 r2 => cases r2; obtain ⟨p, us, rfl, h1, r1⟩ := r1.ofLst; exact ⟨p, us, rfl, .inl (Same.sqL s h1), fun l hl => q _ _ _ (Grow.own s hl) (.mine hl (s.free hl) upd_same r1)⟩
    · cases h; cases rs with | cons r1 r2 => cases r2; obtain ⟨p, us, rfl, h1, r1⟩ := r1.ofTup; exact ⟨p, us, rfl, .inr (Same.sqT s h1), fun l hl => q _ _ _ (Grow.own s hl) (.mine hl (s.free hl) upd_same r1)⟩
    · cases h
  | tuple =>
    unfold blt at h
    rw [if_neg (by decide +kernel), if_neg (by decide +kernel), if_neg (by decide +kernel), if_neg (by decide +kernel), if_pos rfl] at h
    split at h
    · cases h; cases rs with | cons r1 r2 => cases r2; obtain ⟨p, us, rfl, h1, r1⟩ := r1.ofLst; exact ⟨p, us, rfl, .inl ⟨Same.sqL s h1, fun l hl => by
        have g := Grow.laid (o := .tup us) s hl
        exact q _ _ _ g (.of (.tup (.inl (.inl upd_same)) (r1.mono g.f)))⟩⟩
    · cases h; cases rs with | cons r1 r2 => cases r2; obtain ⟨p, us, rfl, h1, r1⟩ := r1.ofTup; exact ⟨p, us, rfl, .inr ⟨Same.sqT s h1, q _ F H (Grow.refl s) (.of (.tup h1 r1))⟩⟩
    · cases h
  | str =>
    unfold blt at h
    rw [if_neg (by decide +kernel), if_neg (by decide +kernel), if_neg (by decide +kernel), if_neg (by decide +kernel), if_neg (by decide +kernel), if_pos rfl] at h
    split at h
    · split at h
      · rename_i hl
        cases h; cases rs with | cons r1 r2 => cases r2; cases r1; exact ⟨_, rfl, hl, q _ F H (Grow.refl s) (.of (.str _))⟩
      · cases h
    · cases h
theorem se_blt0 {f : Str} {fp pos : Pos} {e0 : PySem.Expr} {es : List PySem.Expr} {g : Sl → Option (List PV)} (ok : TabOk c T) (hb : isBlt f = true) (hg : glB sc f = true) (h : SA c sc asg (e0 :: es) g)
    (hl : ∀ σp xs, g σp = some xs → starB (e0 :: es) = false) : SE c sc asg (.Call (.Name f fp) (e0 :: es) [] pos) fun σ => (g σ).bind fun xs => blt f xs := by
  by_cases hr : ∃ b r, BR c.K f b r
  · obtain ⟨b, r, hr⟩ := hr
    obtain ⟨t, a1, a2⟩ := h
    by_cases hs : starB (e0 :: es) = false
    · refine ⟨tCB r t, fun X x => ?_, fun σp y own e => ?_⟩
      · exact BR.pe (by rw [x.K]; exact hr) (gl_of (by rw [x.sc]; exact hg)) (by rw [x.mg]; exact ok.blt f hb) (a1 X x) (star_of (starB_no hs e0 (List.mem_cons_self ..))) (plain_any fun e' he => starB_no hs e' (List.mem_cons_of_mem _ he))
      · cases e1 : g σp with
        | none => simp [e1] at e
        | some xs =>
          simp only [e1, Option.bind_some] at e
          intro F H σ s vr Q q
          refine a2 σp xs e1 F H σ s vr _ fun vs F1 H1 g1 r1 => ?_
          exact blt_ok hr e g1.in_ r1 fun w F' H' g2 r2 => q w F' H' (g1.trans g2) (r2.mono g1.h)
    · refine ⟨tF, fun _ _ => pe_F, fun σp y own e => ?_⟩
      cases e1 : g σp with
      | none => simp [e1] at e
      | some xs => exact absurd (hl _ _ e1) hs
  · refine ⟨tF, fun _ _ => pe_F, fun σp y own e => ?_⟩
    cases e1 : g σp with
    | none => simp [e1] at e
    | some xs =>
      simp only [e1, Option.bind_some] at e
      exact absurd (blt_rule e) hr
theorem bltV_raw {f : Str} {xs : List PV} {x : PV} {own : Bool} (h : bltV f xs = some (x, own)) : ∃ o, blt f xs = some (x, o) ∧ (own = true → o = true) := by
  unfold bltV at h
  split at h
  · rename_i hf
    subst hf
    refine ⟨own, ?_, fun h => h⟩
    unfold blt
    rw [if_neg (by decide +kernel), if_neg (by decide +kernel), if_neg (by decide +kernel), if_pos rfl]
    exact h
  · cases e : blt f xs with
    | none => simp [e] at h
    | some p =>
      simp [e, sh] at h
      obtain ⟨rfl, rfl⟩ := h
      exact ⟨p.2, rfl, fun h => by cases h⟩
theorem se_blt {f : Str} {fp pos : Pos} {e0 : PySem.Expr} {es : List PySem.Expr} {g : Sl → Option (List PV)} (ok : TabOk c T) (hb : isBlt f = true) (hg : glB sc f = true) (h : SA c sc asg (e0 :: es) g)
    (hl : ∀ σp xs, g σp = some xs → starB (e0 :: es) = false) : SE c sc asg (.Call (.Name f fp) (e0 :: es) [] pos) fun σ => (g σ).bind fun xs => bltV f xs :=
  (se_blt0 ok hb hg h hl).map fun σ x own e => by
    obtain ⟨xs, e1, e2⟩ := Option.bind_eq_some_iff.mp e
    obtain ⟨o, e3, e4⟩ := bltV_raw e2
    exact ⟨o, by rw [e1]; exact e3, e4⟩
end
end Pv

/-! Part F: isinstance, what is walked, comprehensions -/
namespace Pv
open PySem L2 PySem.Spec PyProof.Rows

section
variable {c : Cc} {sc : Scope} {asg : Str → Bool} {T : Tb}
theorem tyX_of {K : PySem.W.Frag} {F H : Hp} {v : V} {x : PV} {ty : String} {b : Bool} (h : clsIs ty x = some b) (s : Same F H) (r : Rep K F v x) : ∃ t : String, TyX K H v (.type t) ∧ kitB t ty = some b := by
  unfold clsIs at h
  split at h
  · cases r; exact ⟨_, .base .non, h⟩
  · cases r; exact ⟨_, .base (.bl _), h⟩
  · cases r; exact ⟨_, .base (.int _), h⟩
  · cases r; exact ⟨_, .base (.str _), h⟩
  · obtain ⟨p, vs, rfl, h1, r1⟩ := r.ofTup
    refine ⟨"tuple", ?_, h⟩
    rcases Same.sqT s h1 with (h2 | ⟨o, h2⟩) | ⟨o, its, n, h2, h3, h4⟩
    · exact .base (.tup h2)
    · exact .fTuple h2
    · exact .kTuple h2 h3
  · obtain ⟨p, vs, rfl, h1, r1⟩ := r.ofLst
    refine ⟨"list", ?_, h⟩
    rcases Same.sqL s h1 with (h2 | ⟨o, h2⟩) | ⟨o, its, n, h2, h3, h4⟩
    · exact .base (.lst h2)
    · exact .base (.frz h2)
    · exact .kList h2 h3
  · cases h
theorem isi_boot : bootBuiltins ("isinstance" : Str) = some (.builtin "isinstance") := by decide +kernel
theorem ty_boot {x : Str} {ty : String} (h : tyNames.lookup x = some ty) : bootBuiltins x = some (.type ty) ∧ x ≠ "__name__" ∧ (x == ("__debug__" : Str)) = false := by
  have hm : (x, ty) ∈ tyNames := PySem.mem_of_lookup h
  have all : tyNames.all (fun p => decide (bootBuiltins p.1 = some (.type p.2)) && decide (p.1 ≠ ("__name__" : Str)) && (decide ((p.1 == ("__debug__" : Str)) = false))) = true := by decide +kernel
  have := List.all_eq_true.mp all _ hm
  simp only [Bool.and_eq_true, decide_eq_true_eq] at this
  exact ⟨this.1.1, this.1.2, this.2⟩
theorem se_isi {fp tp pos : Pos} {a : PySem.Expr} {t : Str} {ty : String} {g : Sl → Out} (ok : TabOk c T) (hg : glB sc "isinstance" = true) (ht : glB sc t = true) (hy : tyNames.lookup t = some ty) (h : SE c sc asg a g) (h0 : ∀ e p, a = .Starred e p → ∀ σ, g σ = none) :
    SE c sc asg (.Call (.Name "isinstance" fp) [a, .Name t tp] [] pos) fun σ => (g σ).bind fun x => (clsIs ty x.1).bind fun b => sh (.bl b) := by
  obtain ⟨ta, a1, a2⟩ := h
  obtain ⟨b1, b2, b3⟩ := ty_boot hy
  by_cases hs : ∃ e p, a = .Starred e p
  · obtain ⟨e, p, rfl⟩ := hs
    refine ⟨tF, fun _ _ => pe_F, fun σp y own e' => ?_⟩
    simp [h0 e p rfl] at e'
  · have hs' : ∀ e p, a ≠ .Starred e p := fun e p q => hs ⟨e, p, q⟩
    refine ⟨tCB (rIsi c.K) (tCons ta (tCons (tC (.ty ty)) tNil)), fun X x => ?_, fun σp y own e => ?_⟩
    · have hc : CallR X (.builtin "isinstance") (rIsi c.K) := by rw [← x.K]; exact call_isi
      exact pe_callB hc (gl_of (by rw [x.sc]; exact hg)) (by rw [x.mg]; exact ok.blt _ (by decide +kernel)) isi_boot
        (pa_cons (a1 X x) (pa_cons (pe_bltn (v := .ty ty) (gl_of (by rw [x.sc]; exact ht)) (by rw [x.mg]; exact ok.cls _ _ hy) b1 rfl b2 b3) pa_nil) (star_of hs')) (by decide +kernel) (by decide +kernel) (star_of hs')
    · cases e1 : g σp with
      | none => simp [e1] at e
      | some p =>
        obtain ⟨x, o⟩ := p
        cases e2 : clsIs ty x with
        | none => simp [e1, e2] at e
        | some b =>
          simp only [e1, e2, Option.bind_some] at e
          cases e
          refine EvS.e fun F H σ s vr Q q => ?_
          refine (a2 σp x o e1).s F H σ s vr _ fun v F1 H1 g1 r1 => ?_
          obtain ⟨t', h1, h2⟩ := tyX_of e2 g1.in_ r1
          exact ⟨v, .ty ty, .type t', .type ty, b, rfl, .ty ty, h1, kit_ty h2, q _ F1 H1 g1 (.bl b)⟩

/-! ### what is walked -/
def iSeq (K : PySem.W.Frag) (tl : TE) : TI := fun σ H R => tl σ H fun x H1 => ∃ a, x = .ref a ∧ (((∃ xs, SqL K H1 a xs) ∧ R (Itl K a) H1) ∨ ((∃ xs, SqT K H1 a xs) ∧ R (Itt K a) H1))
theorem pi_seq {X : Cx} {tg l : PySem.Expr} {tl : TE} (hl : PE X l tl) : PI X tg l (iSeq X.K tl) := by
  refine ⟨fun pins s σ H R I h => ?_⟩
  refine thn (hl.run pins s σ H _ I h) fun v s1 ⟨x, H1, I1, r1, q1⟩ => ?_
  obtain ⟨a, e, q⟩ := q1
  subst e
  cases r1
  rcases q with ⟨⟨xs, hq⟩, q⟩ | ⟨⟨xs, hq⟩, q⟩
  · obtain ⟨its, rv, p, hz⟩ := I1.list hq
    refine wpAny_pyIter_list p.isList ?_
    refine ⟨s1.heap.objs.size, [s1.heap.objs.size], _, _, H1, rfl, I1.kept (t' := s1.toks) fun b o e => Heap.get?_push_of_some _ e, turn_list a _, ⟨_, Heap.get?_push_size _ rfl, rfl, rfl⟩, fun b hb => ?_, q⟩
    have e : b = s1.heap.objs.size := by simpa using hb
    subst e
    exact I1.fpOk (Nat.le_refl _) (I1.hok.fresh (Nat.le_refl _))
  · obtain ⟨its, rv, p, hz⟩ := I1.tuple hq
    refine wpAny_pyIter_tuple (show s1.heap.IsTuple a its.toArray from p) ?_
    refine ⟨s1.heap.objs.size, [s1.heap.objs.size], _, _, H1, rfl, I1.kept (t' := s1.toks) fun b o e => Heap.get?_push_of_some _ e, turn_tuple a _, ⟨_, Heap.get?_push_size _ rfl, rfl, rfl⟩, fun b hb => ?_, q⟩
    have e : b = s1.heap.objs.size := by simpa using hb
    subst e
    exact I1.fpOk (Nat.le_refl _) (I1.hok.fresh (Nat.le_refl _))
theorem itok_l {K : PySem.W.Frag} {F : Hp} {a : Addr} {vs : List V} (h : SqL K F a vs) : ItOk (Itl K a) F vs := fun H i s =>
  ⟨fun hi => ⟨⟨vs, vs[i], Same.sqL s h, by simp [hi]⟩, fun x H' y => ⟨y.1, y.2 vs (Same.sqL s h)⟩⟩, fun hi => ⟨vs, Same.sqL s h, hi⟩⟩
theorem itok_t {K : PySem.W.Frag} {F : Hp} {a : Addr} {vs : List V} (h : SqT K F a vs) : ItOk (Itt K a) F vs := fun H i s =>
  ⟨fun hi => ⟨⟨vs, vs[i], Same.sqT s h, by simp [hi]⟩, fun x H' y => ⟨y.1, y.2 vs (Same.sqT s h)⟩⟩, fun hi => ⟨vs, Same.sqT s h, hi⟩⟩
def vInts (lo : Int) : Nat → List V
  | 0 => []
  | n + 1 => .int lo :: vInts (lo + 1) n
theorem vInts_len : ∀ (lo : Int) (n : Nat), (vInts lo n).length = n
  | _, 0 => rfl
  | lo, n + 1 => by show (vInts (lo + 1) n).length + 1 = n + 1; rw [vInts_len]
theorem vInts_get : ∀ (n : Nat) (lo : Int) (i : Nat), i < n → (vInts lo n)[i]? = some (.int (lo + i))
  | n + 1, lo, 0, _ => by simp [vInts]
  | n + 1, lo, i + 1, h => by
    show (vInts (lo + 1) n)[i]? = _
    rw [vInts_get n (lo + 1) i (by omega)]
    congr 2
    omega
theorem vInts_reps {K : PySem.W.Frag} {F : Hp} : ∀ (n : Nat) (lo : Int), Reps K F (vInts lo n) (intsFrom lo n)
  | 0, _ => .nil
  | n + 1, lo => .cons (.int lo) (vInts_reps n (lo + 1))
theorem itok_r {F : Hp} {lo : Int} {n : Nat} : ItOk (Itr lo n) F (vInts lo n) := fun H i s => by
  rw [vInts_len]
  exact ⟨fun hi => ⟨hi, fun x H' y => ⟨y.1, by rw [vInts_get n lo i hi, y.2]⟩⟩, fun hi => hi⟩
theorem si_seq {e : PySem.Expr} {g : Sl → Out} (h : SE c sc asg e g) : SI c sc asg e fun σ => (g σ).bind fun x => seqOf x.1 := fun tg => by
  obtain ⟨t, a1, a2⟩ := h
  refine ⟨iSeq c.K t, fun X x => by rw [← x.K]; exact pi_seq (a1 X x), fun σp xs e => ?_⟩
  cases e1 : g σp with
  | none => simp [e1] at e
  | some p =>
    obtain ⟨x, o⟩ := p
    simp only [e1, Option.bind_some] at e
    intro F H σ s vr R q
    refine (a2 σp x o e1).s F H σ s vr _ fun v F1 H1 g1 r1 => ?_
    unfold seqOf at e
    split at e
    · split at e
      · cases e
        obtain ⟨p, vs, rfl, h1, r1⟩ := r1.ofLst
        exact ⟨p, rfl, .inl ⟨⟨vs, Same.sqL g1.in_ h1⟩, q _ vs F1 H1 g1 r1 (itok_l h1)⟩⟩
      · cases e
    · split at e
      · cases e
        obtain ⟨p, vs, rfl, h1, r1⟩ := r1.ofTup
        exact ⟨p, rfl, .inr ⟨⟨vs, Same.sqT g1.in_ h1⟩, q _ vs F1 H1 g1 r1 (itok_t h1)⟩⟩
      · cases e
    · cases e
theorem small62_of {i : Int} (h : small62 i = true) : -(2 ^ 62) ≤ i ∧ i < 2 ^ 62 := by
  unfold small62 at h
  have h := of_decide_eq_true h
  have h1 : i.natAbs < 2 ^ (i.natAbs.log2 + 1) := Nat.lt_log2_self
  have h2 : 2 ^ (i.natAbs.log2 + 1) ≤ 2 ^ 61 := Nat.pow_le_pow_right (by omega) (by omega)
  omega
theorem si_range1 {a : PySem.Expr} {fp pos : Pos} {g : Sl → Out} (ok : TabOk c T) (hg : glB sc "range" = true) (h : SE c sc asg a g) (h0 : ∀ e p, a = .Starred e p → ∀ σ, g σ = none) :
    SI c sc asg (.Call (.Name "range" fp) [a] [] pos) fun σ => (g σ).bind fun x => (match x.1 with | .int j => if small62 j && decide (j.toNat ≤ big) then some (intsFrom 0 j.toNat) else none | _ => none) := fun tg => by
  obtain ⟨t, a1, a2⟩ := h
  by_cases hs : ∃ e p, a = .Starred e p
  · refine ⟨tiF, fun _ _ => pi_F, fun σp xs e => ?_⟩
    obtain ⟨e', p, q⟩ := hs
    simp [h0 e' p q] at e
  · have hs' : ∀ e p, a ≠ .Starred e p := fun e p q => hs ⟨e, p, q⟩
    refine ⟨iRng1 (tCons t tNil), fun X x => pi_range1 (gl_of (by rw [x.sc]; exact hg)) (by rw [x.mg]; exact ok.blt _ (by decide +kernel)) (pa_cons (a1 X x) pa_nil (star_of hs')) (star_of hs'), fun σp xs e => ?_⟩
    cases e1 : g σp with
    | none => simp [e1] at e
    | some p =>
      obtain ⟨x, o⟩ := p
      simp only [e1, Option.bind_some] at e
      split at e
      · rename_i j
        split at e
        · rename_i hc
          rw [Bool.and_eq_true] at hc
          cases e
          intro F H σ s vr R q
          refine (a2 σp _ o e1).s F H σ s vr _ fun v F1 H1 g1 r1 => ?_
          cases r1
          obtain ⟨b1, b2⟩ := small62_of hc.1
          exact ⟨j, rfl, b1, b2, q _ _ F1 H1 g1 (vInts_reps _ _) itok_r⟩
        · cases e
      · cases e
theorem si_range2 {a b : PySem.Expr} {fp pos : Pos} {g g2 : Sl → Out} (ok : TabOk c T) (hg : glB sc "range" = true) (h : SE c sc asg a g) (h' : SE c sc asg b g2) (h0 : ∀ e p, a = .Starred e p → ∀ σ, g σ = none) (h1 : ∀ e p, b = .Starred e p → ∀ σ, g2 σ = none) :
    SI c sc asg (.Call (.Name "range" fp) [a, b] [] pos) fun σ => (g σ).bind fun x => (g2 σ).bind fun y => (match x.1, y.1 with
            | .int i, .int j => if small62 i && small62 j && decide ((j - i).toNat ≤ big) then some (intsFrom i (j - i).toNat) else none
            | _, _ => none) := fun tg => by
  obtain ⟨t, a1, a2⟩ := h
  obtain ⟨t2, b1, b2⟩ := h'
  by_cases hs : (∃ e p, a = .Starred e p) ∨ ∃ e p, b = .Starred e p
  · refine ⟨tiF, fun _ _ => pi_F, fun σp xs e => ?_⟩
    rcases hs with ⟨e', p, q⟩ | ⟨e', p, q⟩
    · simp [h0 e' p q] at e
    · cases e1 : g σp with
      | none => simp [e1] at e
      | some z =>
        simp [e1, h1 e' p q] at e
  · have hs1 : ∀ e p, a ≠ .Starred e p := fun e p q => hs (.inl ⟨e, p, q⟩)
    have hs2 : ∀ e p, b ≠ .Starred e p := fun e p q => hs (.inr ⟨e, p, q⟩)
    refine ⟨iRng2 (tCons t (tCons t2 tNil)), fun X x => pi_range2 (gl_of (by rw [x.sc]; exact hg)) (by rw [x.mg]; exact ok.blt _ (by decide +kernel)) (pa_cons (a1 X x) (pa_cons (b1 X x) pa_nil (star_of hs2)) (star_of hs1)) (by rw [star_of hs1, star_of hs2]; rfl) (star_of hs2), fun σp xs e => ?_⟩
    cases e1 : g σp with
    | none => simp [e1] at e
    | some p =>
      obtain ⟨x, o⟩ := p
      cases e2 : g2 σp with
      | none => simp [e1, e2] at e
      | some p2 =>
        obtain ⟨y, o2⟩ := p2
        simp only [e1, e2, Option.bind_some] at e
        split at e
        · rename_i i j
          split at e
          · rename_i hc
            rw [Bool.and_eq_true, Bool.and_eq_true] at hc
            cases e
            intro F H σ s vr R q
            refine (a2 σp _ o e1).s F H σ s vr _ fun v F1 H1 g1 r1 => ?_
            refine (b2 σp _ o2 e2).s F1 H1 σ g1.in_ (vr.mono g1.f) _ fun v2 F2 H2 g2' r2 => ?_
            cases r1; cases r2
            obtain ⟨c1, c2⟩ := small62_of hc.1.1
            obtain ⟨c3, c4⟩ := small62_of hc.1.2
            exact ⟨i, j, rfl, ⟨c1, c2, c3, c4⟩, q _ _ F2 H2 (g1.trans g2') (vInts_reps _ _) itok_r⟩
          · cases e
        · cases e
end
end Pv

/-! Part G: targets, comprehensions, the theorem of expressions -/
namespace Pv
open PySem L2 PySem.Spec PyProof.Rows

def URel (K : PySem.W.Frag) (F : Hp) : List (Nat × V) → List (Nat × PV) → Prop := Paired fun p q => p.1 = q.1 ∧ Rep K F p.2 q.2
def appV : List (Nat × V) → L2.St → L2.St
  | [], σ => σ
  | u :: us, σ => appV us (σ.set u.1 (some u.2))
theorem appV_append : ∀ (a b : List (Nat × V)) (σ : L2.St), appV (a ++ b) σ = appV b (appV a σ)
  | [], _, _ => rfl
  | u :: a, b, σ => appV_append a b (σ.set u.1 (some u.2))
theorem appV_length : ∀ (a : List (Nat × V)) (σ : L2.St), (appV a σ).length = σ.length
  | [], _ => rfl
  | u :: a, σ => by rw [appV, appV_length a, List.length_set]
theorem URel.append {K : PySem.W.Frag} {F : Hp} : ∀ {ws ws' : List (Nat × V)} {us us' : List (Nat × PV)}, URel K F ws us → URel K F ws' us' → URel K F (ws ++ ws') (us ++ us')
  | _, _, _, _, .nil, h => h
  | _, _, _, _, .cons a r, h => .cons a (URel.append r h)
theorem URel.mono {K : PySem.W.Frag} {F F' : Hp} (s : Same F F') : ∀ {ws : List (Nat × V)} {us : List (Nat × PV)}, URel K F ws us → URel K F' ws us
  | _, _, .nil => .nil
  | _, _, .cons a r => .cons ⟨a.1, a.2.mono s⟩ (URel.mono s r)
theorem URel.ix {K : PySem.W.Frag} {F : Hp} : ∀ {ws : List (Nat × V)} {us : List (Nat × PV)}, URel K F ws us → ws.map (·.1) = us.map (·.1)
  | _, _, .nil => rfl
  | _, _, .cons a r => by simp only [List.map_cons, a.1, URel.ix r]
theorem Vrel.set {K : PySem.W.Frag} {F : Hp} {σp : Sl} {σ : L2.St} {i : Nat} {v : V} {x : PV} (h : Vrel K B F σp σ) (r : Rep K F v x) : Vrel K B F (σp.set i (some x)) (σ.set i (some v)) := by
  refine ⟨by rw [List.length_set, List.length_set]; exact h.1, fun j y e => ?_, h.tin⟩
  by_cases hj : i = j
  · subst hj
    by_cases hl : i < σp.length
    · rw [List.getElem?_set_self hl] at e
      cases e
      exact ⟨v, List.getElem?_set_self (by rw [← h.1]; exact hl), r⟩
    · rw [List.getElem?_eq_none (by rw [List.length_set]; omega)] at e
      cases e
  · rw [List.getElem?_set_ne hj] at e ⊢
    exact h.2 j y e
theorem Vrel.app {K : PySem.W.Frag} {F : Hp} : ∀ {ws : List (Nat × V)} {us : List (Nat × PV)} {σp : Sl} {σ : L2.St}, URel K F ws us → Vrel K B F σp σ → Vrel K B F (app us σp) (appV ws σ)
  | _, _, _, _, .nil, h => h
  | p :: ws, q :: us, σp, σ, .cons a r, h => by
    unfold Pv.app appV
    rw [a.1]
    exact Vrel.app r (h.set a.2)

section
variable {c : Cc} {sc : Scope} {asg : Str → Bool}
/-- a target's store -/
def SG (c : Cc) (sc : Scope) (asg : Str → Bool) (tg : PySem.Expr) : Prop := ∃ g : TG, (∀ X, CxOk c sc asg X → PG X tg g) ∧ ∀ x us, updT c.N sc asg tg x = some us →
  ∀ F H v σ (Q : L2.St → Hp → Prop), Same F H → Rep c.K F v x → (∀ ws, URel c.K F ws us → Q (appV ws σ) H) → g v σ H Q
def gF : TG := fun _ _ _ _ => False
theorem pg_F {X : Cx} {e : PySem.Expr} : PG X e gF := ⟨fun _ _ _ _ _ _ _ _ _ h => h.elim⟩
def gsF : TGs := fun _ _ _ _ => False
theorem pgs_F {X : Cx} {e : List PySem.Expr} : PGs X e gsF := ⟨fun _ _ _ _ _ _ _ _ _ h => h.elim⟩
theorem assign_each {e : PySem.Expr} {es : List PySem.Expr} {env : Env} (h : ∃ x p, e = .Name x p) : (assignEach (e :: es) env).map (·.2) = assign e env :: (assignEach es env).map (·.2) ∧ assignEach (e :: es) env = (false, assign e env) :: assignEach es env := by
  obtain ⟨x, p, rfl⟩ := h
  exact ⟨rfl, rfl⟩
theorem pg_nameC {x : Str} {pos : Pos} {i : Nat} (nd : c.N.Nodup) (hi : idx c.N x = some i) (hl : locB sc x = true) (ha : asg x = true) {X : Cx} (ok : CxOk c sc asg X) : PG X (.Name x pos) (gName i) :=
  pg_name (by rw [ok.N]; exact nd) (by rw [ok.N]; exact idx_get hi) (by rw [ok.sc]; exact loc_of hl) (ok.as x ha)
theorem updN_of {x : Str} {v : PV} {us : List (Nat × PV)} (h : updN c.N sc asg x v = some us) : ∃ i, idx c.N x = some i ∧ locB sc x = true ∧ asg x = true ∧ us = [(i, v)] := by
  unfold updN at h
  cases e : idx c.N x with
  | none => simp [e] at h
  | some i =>
    simp only [e, Option.bind_some] at h
    split at h
    · rename_i hc
      rw [Bool.and_eq_true] at hc
      cases h
      exact ⟨i, rfl, hc.1, hc.2, rfl⟩
    · cases h
theorem updN_any {x : Str} {v v' : PV} {us : List (Nat × PV)} (h : updN c.N sc asg x v = some us) : ∃ us', updN c.N sc asg x v' = some us' := by
  obtain ⟨i, h1, h2, h3, rfl⟩ := updN_of h
  exact ⟨[(i, v')], by simp [updN, h1, h2, h3]⟩
/-- all the targets' names are stored -/
def nmOk (N : List Str) (sc : Scope) (asg : Str → Bool) (e : PySem.Expr) : Bool := match e with
  | .Name x _ => (idx N x).isSome && locB sc x && asg x
  | _ => false
theorem sgs (nd : c.N.Nodup) : ∀ (es : List PySem.Expr), ∃ g : TGs, (∀ X, CxOk c sc asg X → PGs X es g) ∧ ∀ xs us, updNs c.N sc asg es xs = some us →
    (es.all (fun e => nmOk c.N sc asg e) = true ∧ xs.length = es.length) ∧
    ∀ F H vs σ (Q : L2.St → Hp → Prop), Same F H → Reps c.K F vs xs → (∀ ws, URel c.K F ws us → Q (appV ws σ) H) → g vs σ H Q
  | [] => ⟨gNil, fun _ _ => pgs_nil, fun xs us h => by
      cases xs with
      | nil =>
        simp only [updNs] at h
        cases h
        exact ⟨⟨rfl, rfl⟩, fun F H vs σ Q s r q => by cases r; exact ⟨rfl, q [] .nil⟩⟩
      | cons _ _ => simp only [updNs] at h; cases h⟩
  | e :: es => by
    obtain ⟨g, h1, h2⟩ := sgs nd es
    by_cases hn : nmOk c.N sc asg e = true
    · cases e with
      | Name x p =>
        have hn' := hn
        unfold nmOk at hn'
        simp only [Bool.and_eq_true, Option.isSome_iff_exists] at hn'
        obtain ⟨⟨⟨i, hi⟩, hl⟩, ha⟩ := hn'
        refine ⟨gCons (gName i) g, fun X ok => pgs_cons (pg_nameC nd hi hl ha ok) (h1 X ok) (assign_each ⟨x, p, rfl⟩).1, fun xs us h => ?_⟩
        cases xs with
        | nil => simp only [updNs] at h; cases h
        | cons y ys =>
          simp only [updNs] at h
          cases e1 : updN c.N sc asg x y with
          | none => simp [e1] at h
          | some u =>
            cases e2 : updNs c.N sc asg es ys with
            | none => simp [e1, e2] at h
            | some us' =>
              simp only [e1, e2, Option.bind_some, Option.map_some] at h
              cases h
              obtain ⟨⟨a1, a2⟩, a3⟩ := h2 ys us' e2
              obtain ⟨j, b1, _, _, rfl⟩ := updN_of e1
              rw [hi] at b1
              cases b1
              refine ⟨⟨by rw [List.all_cons, hn, a1]; rfl, by rw [List.length_cons, a2]; rfl⟩, fun F H vs σ Q s r q => ?_⟩
              cases r with
              | cons r1 r2 =>
                refine ⟨_, _, rfl, ?_⟩
                refine a3 F H _ _ _ s r2 fun ws w => ?_
                exact q ((i, _) :: ws) (.cons ⟨rfl, r1⟩ w)
      | _ => cases hn
    · refine ⟨gsF, fun _ _ => pgs_F, fun xs us h => ?_⟩
      exfalso
      cases e with
      | Name x p =>
        cases xs with
        | nil => simp only [updNs] at h; cases h
        | cons y ys =>
          simp only [updNs] at h
          cases e1 : updN c.N sc asg x y with
          | none => simp [e1] at h
          | some u =>
            obtain ⟨j, b1, b2, b3, _⟩ := updN_of e1
            exact hn (by simp [nmOk, b1, b2, b3])
      | _ => cases xs <;> (simp only [updNs] at h; cases h)
theorem each_len {env : Env} : ∀ {es : List PySem.Expr}, es.all (fun e => nmOk c.N sc asg e) = true → (assignEach es env).length = es.length ∧ (assignEach es env).findIdx? (·.1) = none
  | [], _ => ⟨rfl, rfl⟩
  | e :: es, h => by
    rw [List.all_cons, Bool.and_eq_true] at h
    obtain ⟨h1, h2⟩ := each_len (env := env) h.2
    cases e with
    | Name x p =>
      rw [(assign_each (env := env) ⟨x, p, rfl⟩).2]
      refine ⟨by rw [List.length_cons, h1]; rfl, ?_⟩
      rw [List.findIdx?_cons, h2]
      rfl
    | _ => cases h.1
theorem sg (nd : c.N.Nodup) (tg : PySem.Expr) : SG c sc asg tg := by
  cases tg with
  | Name x pos =>
    by_cases hn : nmOk c.N sc asg (.Name x pos) = true
    · have hn' := hn
      unfold nmOk at hn'
      simp only [Bool.and_eq_true, Option.isSome_iff_exists] at hn'
      obtain ⟨⟨⟨i, hi⟩, hl⟩, ha⟩ := hn'
      refine ⟨gName i, fun X ok => pg_nameC nd hi hl ha ok, fun y us h F H v σ Q s r q => ?_⟩
      have h := updT_old h; simp only [updT0] at h
      obtain ⟨j, b1, _, _, rfl⟩ := updN_of h
      rw [hi] at b1
      cases b1
      exact q [(i, v)] (.cons ⟨rfl, r⟩ .nil)
    · refine ⟨gF, fun _ _ => pg_F, fun y us h => ?_⟩
      have h := updT_old h; simp only [updT0] at h
      obtain ⟨j, b1, b2, b3, _⟩ := updN_of h
      exact absurd (by simp [nmOk, b1, b2, b3]) hn
  | Tuple es k pos =>
    obtain ⟨g, h1, h2⟩ := sgs (sc := sc) (asg := asg) nd es
    by_cases ha : es.all (fun e => nmOk c.N sc asg e) = true
    · refine ⟨gTup c.K es.length g, fun X ok => by rw [← ok.K]; exact pg_tup ok.calm (h1 X ok) (each_len ha).1 (each_len ha).2, fun x us h F H v σ Q s r q => ?_⟩
      cases x with
      | tup xs =>
        have h := updT_old h; simp only [updT0] at h
        obtain ⟨⟨_, a2⟩, a3⟩ := h2 xs us h
        obtain ⟨a, vs, rfl, b1, b2⟩ := r.ofTup
        exact ⟨a, vs, rfl, Same.sqT s b1, by rw [b2.length]; exact a2, a3 F H vs σ Q s b2 q⟩
      | _ => have h := updT_old h; simp only [updT0] at h; cases h
    · refine ⟨gF, fun _ _ => pg_F, fun x us h => ?_⟩
      cases x with
      | tup xs =>
        have h := updT_old h; simp only [updT0] at h
        exact absurd (h2 xs us h).1.1 ha
      | _ => have h := updT_old h; simp only [updT0] at h; cases h
  | _ => exact ⟨gF, fun _ _ => pg_F, fun x us h => by cases x <;> (have h := updT_old h; simp only [updT0] at h; cases h)⟩
end
end Pv

/-! Part H: list comprehensions -/
namespace Pv
open PySem L2 PySem.Spec PyProof.Rows

theorem wipe_get {σ : L2.St} {j : Nat} : ∀ {vs : List Nat}, (wipe σ vs)[j]? = if j ∈ vs then (if j < σ.length then some none else none) else σ[j]?
  | [] => by simp [wipe]
  | v :: vs => by
    unfold wipe
    by_cases hv : v = j
    · subst hv
      simp only [List.mem_cons, true_or, if_true]
      by_cases hl : v < σ.length
      · rw [List.getElem?_set_self (by rw [wipe_length]; exact hl), if_pos hl]
      · rw [List.getElem?_eq_none (by rw [List.length_set, wipe_length]; omega), if_neg hl]
    · rw [List.getElem?_set_ne hv, wipe_get]
      have : (j ∈ v :: vs) = (j ∈ vs) := by simp [show ¬ j = v from fun e => hv e.symm]
      simp only [this]
theorem wipe_wipe {σ : L2.St} {vs : List Nat} : wipe (wipe σ vs) vs = wipe σ vs := by
  apply List.ext_getElem?
  intro j
  rw [wipe_get, wipe_get, wipe_length]
  split <;> rfl
theorem appV_out {j : Nat} : ∀ {ws : List (Nat × V)} {σ : L2.St}, j ∉ ws.map (·.1) → (appV ws σ)[j]? = σ[j]?
  | [], _, _ => rfl
  | u :: ws, σ, h => by
    simp only [List.map_cons, List.mem_cons, not_or] at h
    unfold appV
    rw [appV_out h.2, List.getElem?_set_ne (fun e => h.1 e.symm)]
theorem wipe_app {ws : List (Nat × V)} {σ : L2.St} {vs : List Nat} (h : ∀ j ∈ ws.map (·.1), j ∈ vs) : wipe (appV ws (wipe σ vs)) vs = wipe σ vs := by
  apply List.ext_getElem?
  intro j
  rw [wipe_get, wipe_get, appV_length, wipe_length]
  by_cases hj : j ∈ vs
  · rw [if_pos hj, if_pos hj]
  · rw [if_neg hj, if_neg hj, appV_out (fun z => hj (h j z)), wipe_get, if_neg hj]
theorem Vrel.wipe {K : PySem.W.Frag} {F : Hp} {σp : Sl} {σ : L2.St} (h : Vrel K B F σp σ) : ∀ (vs : List Nat), Vrel K B F (wipeP σp vs) (wipe σ vs)
  | [] => h
  | v :: vs => by
    have ih := Vrel.wipe h vs
    unfold wipeP L2.wipe
    refine ⟨by rw [List.length_set, List.length_set]; exact ih.1, fun j y e => ?_, ih.tin⟩
    by_cases hj : v = j
    · subst hj
      by_cases hl : v < (wipeP σp vs).length
      · rw [List.getElem?_set_self hl] at e; cases e
      · rw [List.getElem?_eq_none (by rw [List.length_set]; omega)] at e; cases e
    · rw [List.getElem?_set_ne hj] at e ⊢
      exact ih.2 j y e

section
variable {c : Cc} {sc : Scope} {asg : Str → Bool} {T : Tb}
theorem updNs_ix {P : Nat → Prop} (hP : ∀ x i, idx c.N x = some i → asg x = true → P i) : ∀ {es : List PySem.Expr} {xs : List PV} {us : List (Nat × PV)}, updNs c.N sc asg es xs = some us → ∀ j ∈ us.map (·.1), P j
  | [], [], us, h => by simp only [updNs] at h; cases h; intro j hj; cases hj
  | [], _ :: _, us, h => by simp only [updNs] at h; cases h
  | e :: es, xs, us, h => by
    cases e with
    | Name x p =>
      cases xs with
      | nil => simp only [updNs] at h; cases h
      | cons y ys =>
        simp only [updNs] at h
        cases e1 : updN c.N sc asg x y with
        | none => simp [e1] at h
        | some u =>
          cases e2 : updNs c.N sc asg es ys with
          | none => simp [e1, e2] at h
          | some us' =>
            simp only [e1, e2, Option.bind_some, Option.map_some] at h
            cases h
            obtain ⟨i, b1, _, b3, rfl⟩ := updN_of e1
            intro j hj
            simp only [List.cons_append, List.nil_append, List.map_cons, List.mem_cons] at hj
            rcases hj with rfl | hj
            · exact hP x _ b1 b3
            · exact updNs_ix hP e2 j hj
    | _ => cases xs <;> (simp only [updNs] at h; cases h)
theorem updT_ix {P : Nat → Prop} (hP : ∀ x i, idx c.N x = some i → asg x = true → P i) {tg : PySem.Expr} {x : PV} {us : List (Nat × PV)} (h : updT c.N sc asg tg x = some us) : ∀ j ∈ us.map (·.1), P j := by
  have h := updT_old h
  unfold updT0 at h
  split at h
  · obtain ⟨i, b1, _, b3, rfl⟩ := updN_of h
    intro j hj
    simp only [List.map_cons, List.map_nil, List.mem_singleton] at hj
    subst hj
    exact hP _ _ b1 b3
  · exact updNs_ix hP h
  · cases h
theorem own_mem {N : List Str} {scope : Scope} {x : Str} {i : Nat} (h1 : idx N x = some i) (h2 : asgOf scope x = true) : i ∈ (ownOf N scope).map (·.2) := by
  unfold asgOf locB at h2
  refine List.mem_map.mpr ⟨(x, i), ?_, rfl⟩
  unfold ownOf
  split at h2
  · rename_i e
    exact List.mem_filterMap.mpr ⟨(x, .local), PySem.mem_of_lookup e, by simp [h1]⟩
  · rename_i e
    exact List.mem_filterMap.mpr ⟨(x, .cell), PySem.mem_of_lookup e, by simp [h1]⟩
  · cases h2
theorem blk_ok {scope : Scope} {X : Cx} (ok : CxOk c sc asg X) (s : Shared) (H : Hp) (C : Addr) (cl : List (Str × Addr)) (fp : List Addr) : CxOk c (relS scope sc) (asgOf scope) (X.blk s H scope (compEnvC scope cl C X.env) fp) := by
  refine ⟨ok.P, ok.w, ok.K, ok.mg, ok.base, ok.N, ?_, ok.rm, ok.calm, ok.gen, fun x h => ?_⟩
  · rw [← ok.sc]; rfl
  · unfold asgOf locB at h
    split at h
    · rename_i e
      right
      show (relS scope X.env.scope).names.lookup x = some .local
      exact lookup_relS_keep (by decide) e
    · rename_i e
      left
      show (scope.names.lookup x == some NameKind.cell) = true
      rw [e]
      rfl
    · cases h

/-- a comprehension as a value, and given to a name -/
def SEL (c : Cc) (sc : Scope) (asg : Str → Bool) (elt : PySem.Expr) (gens : List Comprehension) (scope : Scope) (pos : Pos) (f : Sl → Out) : Prop := ∃ t, (∀ X, CxOk c sc asg X → PE X (.ListComp elt gens scope pos) t ∧
    ∀ i y py spos, X.N[i]? = some y → X.env.scope.names.lookup y = some .local → swapsWith (.ListComp elt gens scope pos) (some (.Name y py)) spos.line X.env = pure true → PS X (.Assign [.Name y py] (.ListComp elt gens scope pos) spos) (tAsg t (gName i))) ∧
  ∀ σp x own, f σp = some (x, own) → EvE c.K c.B t σp x own
theorem SEL.se {elt : PySem.Expr} {gens : List Comprehension} {scope : Scope} {pos : Pos} {f : Sl → Out} (h : SEL c sc asg elt gens scope pos f) : SE c sc asg (.ListComp elt gens scope pos) f :=
  let ⟨t, a, b⟩ := h; ⟨t, fun X x => (a X x).1, b⟩
theorem SEL.none {elt : PySem.Expr} {gens : List Comprehension} {scope : Scope} {pos : Pos} : SEL c sc asg elt gens scope pos fun _ => none :=
  ⟨tF, fun _ _ => ⟨pe_F, fun _ _ _ _ _ _ _ => ⟨fun _ _ _ _ _ _ h => h.elim⟩⟩, fun _ _ _ h => nomatch h⟩
theorem SEL.congr {elt : PySem.Expr} {gens : List Comprehension} {scope : Scope} {pos : Pos} {f g : Sl → Out} (h : SEL c sc asg elt gens scope pos f) (q : ∀ σ, g σ = f σ) : SEL c sc asg elt gens scope pos g :=
  let ⟨t, a, b⟩ := h; ⟨t, a, fun σp x own e => b σp x own (by rw [← q]; exact e)⟩
theorem se_lc {elt tg iter : PySem.Expr} {ifs : List PySem.Expr} {scope : Scope} {pos : Pos} {gi : Sl → Option (List PV)} {gt : Sl → Option Bool} {ge : Sl → Out} (nd : c.N.Nodup) (hb : blkC c.N sc scope (ownOf c.N scope) = true)
    (hs : ∀ env x, foldedSetIterable iter env x = pure x) (hi : SI c sc asg iter gi) (hl : ∀ σp xs, gi σp = some xs → xs.length ≤ big)
    (ht : ∃ tt, (∀ X, CxOk c (relS scope sc) (asgOf scope) X → PTs X ifs tt) ∧ ∀ σp b, gt σp = some b → EvT c.K c.B tt σp b) (he : SE c (relS scope sc) (asgOf scope) elt ge) :
    SEL c sc asg elt [⟨tg, iter, ifs, 0⟩] scope pos fun σ => (gi σ).bind fun items =>
      (compL (fun x => (updT c.N (relS scope sc) (asgOf scope) tg x).map fun us => app us (wipeP σ ((ownOf c.N scope).map (·.2)))) gt ge items).bind fun ys => some (.lst ys, true) := by
  obtain ⟨wi, i1, i2⟩ := hi tg
  obtain ⟨tt, t1, t2⟩ := ht
  obtain ⟨te, e1, e2⟩ := he
  obtain ⟨g, g1, g2⟩ := sg (c := c) (sc := relS scope sc) (asg := asgOf scope) nd tg
  refine ⟨tLc wi g tt te ((ownOf c.N scope).map (·.2)), fun X ok => ?_, fun σp y own h => ?_⟩
  · exact ⟨pe_lc ok.calm (by rw [ok.N]; exact nd) (i1 X ok) (blkOk_by (by rw [ok.N, ok.sc]; exact hb)) (fun s H C cl fp => g1 _ (blk_ok ok s H C cl fp)) (fun s H C cl fp => t1 _ (blk_ok ok s H C cl fp)) (fun s H C cl fp => e1 _ (blk_ok ok s H C cl fp)) (hs _),
      fun i y py spos hy hl hw => ps_setLc ok.calm (by rw [ok.N]; exact nd) hy hl hw (i1 X ok) (blkOk_by (by rw [ok.N, ok.sc]; exact hb)) (fun s H C cl fp => g1 _ (blk_ok ok s H C cl fp)) (fun s H C cl fp => t1 _ (blk_ok ok s H C cl fp)) (fun s H C cl fp => e1 _ (blk_ok ok s H C cl fp)) (hs _)⟩
  · cases q1 : gi σp with
    | none => simp [q1] at h
    | some items =>
      simp only [q1, Option.bind_some] at h
      generalize hvs : (ownOf c.N scope).map (·.2) = vs at h
      generalize hbf : (fun x => (updT c.N (relS scope sc) (asgOf scope) tg x).map fun us => app us (wipeP σp vs)) = bf at h
      cases q2 : compL bf gt ge items with
      | none => simp [q2] at h
      | some ys =>
        simp only [q2, Option.bind_some] at h
        cases h
        intro F H σ s vr Q q
        refine i2 σp items q1 F H σ s vr _ fun J us F1 H1 gr1 r1 it => ?_
        intro D hD
        have hF1D : F1 D = none := gr1.in_.free hD
        refine ⟨fun i m Hc => m = us.length - i ∧ i ≤ us.length ∧ ∃ Fc acc ys1 ys2, Grow F1 H1 Fc Hc ∧ Hc D = some (.lst acc) ∧ Fc D = none ∧ Reps c.K Fc acc ys1 ∧ compL bf gt ge (items.drop i) = some ys2 ∧ ys1 ++ ys2 = ys ∧ ys1.length ≤ i, ?_, ?_⟩
        · exact ⟨us.length, by simp, Nat.zero_le _, F1, [], [], ys, Grow.own gr1.in_ hD, upd_same, hF1D, .nil, q2, rfl, Nat.le_refl _⟩
        · rintro i m Hc ⟨rfl, hi, Fc, acc, ys1, ys2, gc, hcD, hfD, rc, qc, hys, hlen⟩
          obtain ⟨it1, it2⟩ := it Hc i (gc.f.trans gc.in_)
          by_cases hlt : i < us.length
          · refine .inr ⟨(it1 hlt).1, fun Hn => ∃ m', m' < us.length - i ∧ m' = us.length - (i + 1) ∧ i + 1 ≤ us.length ∧ ∃ Fc acc ys1 ys2, Grow F1 H1 Fc Hn ∧ Hn D = some (.lst acc) ∧ Fc D = none ∧ Reps c.K Fc acc ys1 ∧ compL bf gt ge (items.drop (i + 1)) = some ys2 ∧ ys1 ++ ys2 = ys ∧ ys1.length ≤ i + 1,
              fun H' h' => ?_, fun x H' hy => ?_⟩
            · obtain ⟨m', h1, h2, h3, h4⟩ := h'
              exact ⟨m', h1, h2, h3, h4⟩
            · obtain ⟨rfl, hx⟩ := (it1 hlt).2 x H' hy
              obtain ⟨xi, hxi, rx⟩ := r1.getV hx
              have hd : items.drop i = xi :: items.drop (i + 1) := by
                obtain ⟨hl, e⟩ := List.getElem?_eq_some_iff.mp hxi
                rw [List.drop_eq_getElem_cons hl, e]
              rw [hd] at qc
              simp only [compL] at qc
              cases w1 : bf xi with
              | none => simp [w1] at qc
              | some σ1 =>
                simp only [w1, Option.bind_some] at qc
                cases w2 : gt σ1 with
                | none => simp [w2] at qc
                | some k =>
                  simp only [w2, Option.bind_some] at qc
                  have w1' := w1
                  rw [← hbf] at w1'
                  simp only at w1'
                  cases w3 : updT c.N (relS scope sc) (asgOf scope) tg xi with
                  | none => simp [w3] at w1'
                  | some uu =>
                    simp only [w3, Option.map_some, Option.some.injEq] at w1'
                    subst w1'
                    have lenI : (us.length - (i + 1)) < us.length - i := by omega
                    refine g2 xi uu w3 Fc H' x _ _ gc.in_ (rx.mono gc.f) fun ws hw => ?_
                    refine ⟨wipe_app fun j hj => ?_, ?_⟩
                    · rw [hw.ix] at hj
                      rw [← hvs]
                      exact updT_ix (c := c) (P := fun j => j ∈ (ownOf c.N scope).map (·.2)) (fun x i a b => own_mem a b) w3 j hj
                    · have vr1 : Vrel c.K c.B Fc (app uu (wipeP σp vs)) (appV ws (L2.wipe σ vs)) := Vrel.app hw (((vr.mono gr1.f).mono gc.f).wipe vs)
                      refine t2 _ k w2 Fc H' _ gc.in_ vr1 _ fun F3 H3 g3 => ?_
                      have h3D : H3 D = some (.lst acc) := g3.h.lst hcD
                      have f3D : F3 D = none := g3.new D (by rw [hcD]; simp) hfD
                      cases k with
                      | false =>
                        rw [if_neg Bool.false_ne_true] at qc ⊢
                        exact ⟨_, lenI, rfl, hlt, F3, acc, ys1, ys2, gc.trans g3, h3D, f3D, rc.mono g3.f, qc, hys, Nat.le_succ_of_le hlen⟩
                      | true =>
                        rw [if_pos rfl] at qc ⊢
                        cases w4 : ge (app uu (wipeP σp vs)) with
                        | none => simp [w4] at qc
                        | some p =>
                          obtain ⟨yv, yo⟩ := p
                          simp only [w4, Option.bind_some] at qc
                          cases w5 : compL bf gt ge (items.drop (i + 1)) with
                          | none => simp [w5] at qc
                          | some ys3 =>
                            simp only [w5, Option.map_some, Option.some.injEq] at qc
                            subst qc
                            refine (e2 _ yv yo w4).s F3 H3 _ g3.in_ (vr1.mono g3.f) _ fun v F4 H4 g4 r4 => ?_
                            have h4D : H4 D = some (.lst acc) := g4.h.lst h3D
                            have f4D : F4 D = none := g4.new D (by rw [h3D]; simp) f3D
                            have gg := (gc.trans g3).trans g4
                            refine ⟨acc, h4D, ?_, _, lenI, rfl, hlt, F4, acc ++ [v], ys1 ++ [yv], ys3, ⟨gg.f, ?_, ?_, gg.new⟩, upd_same, f4D, ((rc.mono g3.f).mono g4.f).append (.cons r4 .nil), (by first | exact w5 | rfl), by rw [← hys]; simp, by rw [List.length_append]; simp; exact hlen⟩
                            · have a1 := rc.length
                              have a2 := r1.length
                              have a3 := hl _ _ q1
                              have a4 := big_line
                              omega
                            · intro b o e
                              rw [upd_ne (ne_of_none e hD)]
                              exact gg.h b o e
                            · intro b o e
                              rw [upd_ne (ne_of_none e f4D)]
                              exact gg.in_ b o e
          · have e : i = us.length := by omega
            subst e
            refine .inl ⟨it2 (Nat.le_refl _), ?_⟩
            have hd : items.drop us.length = [] := by rw [r1.length]; exact List.drop_length ..
            rw [hd] at qc
            simp only [compL] at qc
            cases qc
            rw [List.append_nil] at hys
            subst hys
            exact q _ Fc Hc (gr1.trans gc) (.mine (gr1.h.free hD) hfD hcD rc)

/-! ### any, all of a generator expression -/
theorem gcx_ok {scope : Scope} {X : Cx} (ok : CxOk c sc asg X) (A' : Around) (s : Shared) (H : Hp) (cenv : Env) (fp : List Addr) (e : cenv.scope = scope) (r : Room c.d A') : CxOk { c with gn := false } scope (asgOf scope) (gcx X A' s H cenv fp) :=
  ⟨ok.P, ok.w, ok.K, ok.mg, ok.base, ok.N, e, r, ok.calm, fun h => (nomatch h), fun x h => by
    unfold asgOf locB at h
    split at h
    · rename_i e1
      right
      show cenv.scope.names.lookup x = some .local
      rw [e]; exact e1
    · rename_i e1
      left
      show (cenv.scope.names.lookup x == some NameKind.cell) = true
      rw [e, e1]; rfl
    · cases h⟩
theorem se_gx {sv : Bool} {f : Str} {tg elt iter : PySem.Expr} {scope : Scope} {gpos pos fp : Pos} {gi : Sl → Option (List PV)} {ge : Sl → Out} (hf : f = if sv then "any" else "all") (nd : c.N.Nodup) (hb : blkC c.N sc scope (ownOf c.N scope) = true) (hg : genS scope = true)
    (hgl : glB sc f = true) (hcg : (c.gn = true ∧ c.tb ∈ c.B) ∧ c.mg "all" = none ∧ c.mg "any" = none)
    (hs : ∀ env x, genFold iter env x = pure x) (hi : SI c sc asg iter gi) (he : SE { c with gn := false } scope (asgOf scope) elt ge) :
    SE c sc asg (.Call (.Name f fp) [.GeneratorExp elt [⟨tg, iter, [], 0⟩] scope gpos] [] pos) fun σ => (gi σ).bind fun items =>
      (qAll sv (fun x => ((updT c.N scope (asgOf scope) tg x).map fun us => app us (wipeP σ ((ownOf c.N scope).map (·.2)))).bind fun σ1 => (ge σ1).bind fun y => blOf y.1) items).bind fun b => sh (.bl b) := by
  obtain ⟨wi, i1, i2⟩ := hi tg
  obtain ⟨te, e1, e2⟩ := he
  obtain ⟨g, g1, g2⟩ := sg (c := { c with gn := false }) (sc := scope) (asg := asgOf scope) nd tg
  have hg0 := hg
  unfold genS at hg0
  rw [Bool.and_eq_true] at hg0
  have hco : scope.isCoroutine = false := by simpa using hg0.1
  have hdot : scope.names.lookup (".0" : Str) = some NameKind.local := by simpa using hg0.2
  refine ⟨tGx sv c.tb wi g te ((ownOf c.N scope).map (·.2)), fun X ok => ?_, fun σp y own h => ?_⟩
  · obtain ⟨hr, cd, hcode, TB⟩ := ok.gen hcg.1.1
    have okb := blkOk_by (N := X.N) (sc := X.env.scope) (scope := scope) (own := ownOf c.N scope) (by rw [ok.N, ok.sc]; exact hb)
    have gl : Gl X f := gl_of (by rw [ok.sc]; exact hgl)
    cases sv with
    | true =>
      have hf : f = "any" := hf
      subst hf
      exact pe_gx_any hr ok.calm (by rw [ok.N]; exact nd) gl (by rw [ok.mg]; exact hcg.2.2) TB hcode okb hco hdot (i1 X ok) (fun A' s H ce fp e r => g1 _ (gcx_ok ok A' s H ce fp e r)) (fun A' s H ce fp e r => e1 _ (gcx_ok ok A' s H ce fp e r)) (hs _)
    | false =>
      have hf : f = "all" := hf
      subst hf
      exact pe_gx_all hr ok.calm (by rw [ok.N]; exact nd) gl (by rw [ok.mg]; exact hcg.2.1) TB hcode okb hco hdot (i1 X ok) (fun A' s H ce fp e r => g1 _ (gcx_ok ok A' s H ce fp e r)) (fun A' s H ce fp e r => e1 _ (gcx_ok ok A' s H ce fp e r)) (hs _)
  · cases q1 : gi σp with
    | none => simp [q1] at h
    | some items =>
      simp only [q1, Option.bind_some] at h
      generalize hvs : (ownOf c.N scope).map (·.2) = vs at h
      generalize hst : (fun x => ((updT c.N scope (asgOf scope) tg x).map fun us => app us (wipeP σp vs)).bind fun σ1 => (ge σ1).bind fun y => blOf y.1) = st at h
      cases q2 : qAll sv st items with
      | none => simp [q2] at h
      | some bb =>
        simp only [q2, Option.bind_some] at h
        cases h
        intro F H σ s vr Q q
        refine i2 σp items q1 F H σ s vr _ fun J us F1 H1 gr1 r1 it => ?_
        refine ⟨(vr.tin.mono gr1.f).mono gr1.in_ _ hcg.1.2, fun H2 tx => ?_⟩
        have s12 : Same H1 H2 := same_tabbed tx
        refine ⟨fun i m Hc => m = us.length - i ∧ i ≤ us.length ∧ ∃ Fc, Grow F1 H1 Fc Hc ∧ qAll sv st (items.drop i) = some bb, ?_, ?_⟩
        · exact ⟨us.length, by simp, Nat.zero_le _, F1, ⟨Same.refl _, s12, gr1.in_.trans s12, fun _ _ h => h⟩, q2⟩
        · rintro i m Hc ⟨rfl, hi, Fc, gc, qc⟩
          obtain ⟨it1, it2⟩ := it Hc i (gc.f.trans gc.in_)
          by_cases hlt : i < us.length
          · refine .inr ⟨(it1 hlt).1, fun Hn => ∃ m', m' < us.length - i ∧ m' = us.length - (i + 1) ∧ i + 1 ≤ us.length ∧ ∃ Fc, Grow F1 H1 Fc Hn ∧ qAll sv st (items.drop (i + 1)) = some bb,
              fun H' h' => ?_, fun x H' hy => ?_⟩
            · obtain ⟨m', h1, h2, h3, h4⟩ := h'
              exact ⟨m', h1, h2, h3, h4⟩
            · obtain ⟨rfl, hx⟩ := (it1 hlt).2 x H' hy
              obtain ⟨xi, hxi, rx⟩ := r1.getV hx
              have hd : items.drop i = xi :: items.drop (i + 1) := by
                obtain ⟨hl, e⟩ := List.getElem?_eq_some_iff.mp hxi
                rw [List.drop_eq_getElem_cons hl, e]
              rw [hd] at qc
              simp only [qAll] at qc
              cases w1 : st xi with
              | none => simp [w1] at qc
              | some b =>
                simp only [w1, Option.bind_some] at qc
                have w1' := w1
                rw [← hst] at w1'
                simp only at w1'
                cases w3 : updT c.N scope (asgOf scope) tg xi with
                | none => simp [w3] at w1'
                | some uu =>
                  simp only [w3, Option.map_some, Option.bind_some] at w1'
                  cases w4 : ge (app uu (wipeP σp vs)) with
                  | none => simp [w4] at w1'
                  | some p =>
                    obtain ⟨yv, yo⟩ := p
                    simp only [w4, Option.bind_some] at w1'
                    have yb : yv = .bl b := by
                      cases yv <;> simp [blOf] at w1'
                      rw [w1']
                    subst yb
                    have lenI : (us.length - (i + 1)) < us.length - i := by omega
                    refine g2 xi uu w3 Fc H' x _ _ gc.in_ (rx.mono gc.f) fun ws hw => ?_
                    refine ⟨wipe_app fun j hj => ?_, ?_⟩
                    · rw [hw.ix] at hj
                      rw [← hvs]
                      exact updT_ix (c := { c with gn := false }) (P := fun j => j ∈ (ownOf c.N scope).map (·.2)) (fun x i a b => own_mem a b) w3 j hj
                    · have vr1 : Vrel c.K c.B Fc (app uu (wipeP σp vs)) (appV ws (L2.wipe σ vs)) := Vrel.app hw (((vr.mono gr1.f).mono gc.f).wipe vs)
                      refine (e2 _ _ yo w4).s Fc H' _ gc.in_ vr1 _ fun v F4 H4 g4 r4 => ?_
                      refine ⟨b, r4.ofBl, ?_⟩
                      by_cases hbs : b = sv
                      · rw [if_pos hbs] at qc ⊢
                        cases qc
                        exact q _ F4 H4 (gr1.trans (gc.trans g4)) (.of (.bl _))
                      · rw [if_neg hbs] at qc ⊢
                        exact ⟨_, lenI, rfl, hlt, F4, gc.trans g4, qc⟩
          · have e : i = us.length := by omega
            subst e
            refine .inl ⟨it2 (Nat.le_refl _), ?_⟩
            have hd : items.drop us.length = [] := by rw [r1.length]; exact List.drop_length ..
            rw [hd] at qc
            simp only [qAll] at qc
            cases qc
            exact q _ Fc Hc (gr1.trans gc) (.of (.bl _))
end
end Pv

/-! Part I: all expressions -/
namespace Pv
open PySem L2 PySem.Spec PyProof.Rows

section
variable {c : Cc} {T : Tb}
theorem SE.congr {sc : Scope} {asg : Str → Bool} {e : PySem.Expr} {f g : Sl → Out} (h : SE c sc asg e f) (q : ∀ σ, g σ = f σ) : SE c sc asg e g :=
  let ⟨t, a, b⟩ := h; ⟨t, a, fun σp x own e => b σp x own (by rw [← q]; exact e)⟩
theorem ST.congr {sc : Scope} {asg : Str → Bool} {e : PySem.Expr} {f g : Sl → Option Bool} (h : ST c sc asg e f) (q : ∀ σ, g σ = f σ) : ST c sc asg e g :=
  let ⟨t, a, b⟩ := h; ⟨t, a, fun σp x e => b σp x (by rw [← q]; exact e)⟩
theorem SI.congr {sc : Scope} {asg : Str → Bool} {e : PySem.Expr} {f g : Sl → Option (List PV)} (h : SI c sc asg e f) (q : ∀ σ, g σ = f σ) : SI c sc asg e g := fun tg =>
  let ⟨t, a, b⟩ := h tg; ⟨t, a, fun σp x e => b σp x (by rw [← q]; exact e)⟩
theorem units_of {sc : Scope} {asg : Str → Bool} {X : Cx} (x : CxOk c sc asg X) : X.A.units + 64 < cLine := x.rm.units

variable {sc : Scope} {asg : Str → Bool}
theorem se_binop {a b : PySem.Expr} {op : Operator} {pos : Pos} {f g : Sl → Out} (h1 : SE c sc asg a f) (h2 : SE c sc asg b g) : SE c sc asg (.BinOp a op b pos) fun σ => (f σ).bind fun x => (g σ).bind fun y => binop op x.1 y.1 := by
  obtain ⟨t, a1, a2⟩ := h1
  obtain ⟨u, b1, b2⟩ := h2
  refine ⟨tOp (rB c.K op) t u, fun X x => pe_op (by rw [← x.K]; exact op_B op) (a1 X x) (b1 X x), fun σp z own e => ?_⟩
  cases e1 : f σp with
  | none => simp [e1] at e
  | some p =>
    cases e2 : g σp with
    | none => simp [e1, e2] at e
    | some p2 =>
      simp only [e1, e2, Option.bind_some] at e
      intro F H σ s vr Q q
      refine (a2 σp p.1 p.2 e1).s F H σ s vr _ fun v F1 H1 g1 r1 => ?_
      refine (b2 σp p2.1 p2.2 e2).s F1 H1 σ g1.in_ (vr.mono g1.f) _ fun w F2 H2 g2 r2 => ?_
      exact binop_ok e g2.in_ (r1.mono g2.f) r2 fun w' F' H' g3 r3 => q w' F' H' ((g1.trans g2).trans g3) (r3.mono (g1.h.trans g2.h))
theorem se_neg {a : PySem.Expr} {pos : Pos} {f : Sl → Out} (h1 : SE c sc asg a f) : SE c sc asg (.UnaryOp .USub a pos) fun σ => (f σ).bind fun x => (match x.1 with | .int i => sh (.int (-i)) | _ => none) := by
  obtain ⟨t, a1, a2⟩ := h1
  refine ⟨tUn (rU fun i => .int (-i)) t, fun X x => pe_un un_neg (a1 X x), fun σp z own e => ?_⟩
  cases e1 : f σp with
  | none => simp [e1] at e
  | some p =>
    obtain ⟨x, o⟩ := p
    simp only [e1, Option.bind_some] at e
    split at e
    · cases e
      refine EvS.e fun F H σ s vr Q q => ?_
      refine (a2 σp _ o e1).s F H σ s vr _ fun v F1 H1 g1 r1 => ?_
      cases r1
      exact ⟨_, rfl, q _ F1 H1 g1 (.int _)⟩
    · cases e
theorem se_not {a : PySem.Expr} {pos : Pos} {f : Sl → Out} (h1 : SE c sc asg a f) : SE c sc asg (.UnaryOp .Not a pos) fun σ => (f σ).bind fun x => (match x.1 with | .bl c => sh (.bl (!c)) | _ => none) := by
  obtain ⟨t, a1, a2⟩ := h1
  refine ⟨tNotV t, fun X x => pe_not (a1 X x), fun σp z own e => ?_⟩
  cases e1 : f σp with
  | none => simp [e1] at e
  | some p =>
    obtain ⟨x, o⟩ := p
    simp only [e1, Option.bind_some] at e
    split at e
    · cases e
      refine EvS.e fun F H σ s vr Q q => ?_
      refine (a2 σp _ o e1).s F H σ s vr _ fun v F1 H1 g1 r1 => ?_
      cases r1
      exact ⟨_, rfl, q _ F1 H1 g1 (.bl _)⟩
    · cases e
theorem se_boolV {op : BoolOp} {pos : Pos} {f : Sl → PySem.Expr → Out} : ∀ {es : List PySem.Expr}, (∀ e ∈ es, SE c sc asg e fun σ => f σ e) → SE c sc asg (.BoolOp op es pos) fun σ => boolV (f σ) op es
  | [], _ => SE.none.congr fun _ => rfl
  | [e], h => by
    obtain ⟨t, a1, a2⟩ := h e (List.mem_cons_self ..)
    exact ⟨t, fun X x => pe_one (a1 X x), fun σp z own q => a2 σp z own q⟩
  | e :: e' :: es, h => by
    obtain ⟨t, a1, a2⟩ := h e (List.mem_cons_self ..)
    obtain ⟨u, b1, b2⟩ := se_boolV (op := op) (pos := pos) (f := f) (es := e' :: es) fun e he => h e (List.mem_cons_of_mem _ he)
    cases op with
    | And =>
      refine ⟨tAndV t u, fun X x => pe_and (a1 X x) (b1 X x), fun σp z own q => ?_⟩
      simp only [boolV] at q
      cases e1 : f σp e with
      | none => simp [e1] at q
      | some p =>
        obtain ⟨x, o⟩ := p
        simp only [e1, Option.bind_some] at q
        cases x with
        | bl k =>
          simp only [blOf, Option.bind_some] at q
          intro F H σ s vr Q qq
          refine (a2 σp _ o e1).s F H σ s vr _ fun v F1 H1 g1 r1 => ?_
          cases r1
          refine ⟨k, rfl, ?_⟩
          cases k with
          | true =>
            simp only [if_true] at q
            exact b2 σp z own q F1 H1 σ g1.in_ (vr.mono g1.f) Q fun v F' H' g2 r2 => qq v F' H' (g1.trans g2) (r2.mono g1.h)
          | false =>
            simp only [Bool.false_eq_true, if_false] at q
            cases q
            exact qq _ F1 H1 g1 (.of (.bl _))
        | _ => simp [blOf] at q
    | Or =>
      refine ⟨tOrV t u, fun X x => pe_or (a1 X x) (b1 X x), fun σp z own q => ?_⟩
      simp only [boolV] at q
      cases e1 : f σp e with
      | none => simp [e1] at q
      | some p =>
        obtain ⟨x, o⟩ := p
        simp only [e1, Option.bind_some] at q
        cases x with
        | bl k =>
          simp only [blOf, Option.bind_some] at q
          intro F H σ s vr Q qq
          refine (a2 σp _ o e1).s F H σ s vr _ fun v F1 H1 g1 r1 => ?_
          cases r1
          refine ⟨k, rfl, ?_⟩
          cases k with
          | false =>
            simp only [Bool.false_eq_true, if_false] at q
            exact b2 σp z own q F1 H1 σ g1.in_ (vr.mono g1.f) Q fun v F' H' g2 r2 => qq v F' H' (g1.trans g2) (r2.mono g1.h)
          | true =>
            simp only [if_true] at q
            cases q
            exact qq _ F1 H1 g1 (.of (.bl _))
        | _ => simp [blOf] at q
theorem se_cmp {a b : PySem.Expr} {op : CmpOp} {pos : Pos} {f g : Sl → Out} (h1 : SE c sc asg a f) (h2 : SE c sc asg b g) : SE c sc asg (.Compare a [op] [b] pos) fun σ => if behindInMarks op b then none else (f σ).bind fun x => (g σ).bind fun y => (cmp op x.1 y.1).bind fun k => sh (.bl k) := by
  by_cases hm : behindInMarks op b = true
  · simp only [hm, if_true]
    exact SE.none
  · have hm' : behindInMarks op b = false := by simpa using hm
    simp only [hm']
    obtain ⟨t, a1, a2⟩ := h1
    obtain ⟨u, b1, b2⟩ := h2
    refine ⟨tOp (rC c.K op) t u, fun X x => pe_cmpR (by rw [← x.K]; exact op_C (units_of x) op) (a1 X x) (b1 X x) hm', fun σp z own e => ?_⟩
    cases e1 : f σp with
    | none => simp [e1] at e
    | some p =>
      cases e2 : g σp with
      | none => simp [e1, e2] at e
      | some p2 =>
        cases e3 : cmp op p.1 p2.1 with
        | none => simp [e1, e2, e3] at e
        | some k =>
          simp [e1, e2, e3] at e
          cases e
          refine EvS.e fun F H σ s vr Q q => ?_
          refine (a2 σp p.1 p.2 e1).s F H σ s vr _ fun v F1 H1 g1 r1 => ?_
          refine (b2 σp p2.1 p2.2 e2).s F1 H1 σ g1.in_ (vr.mono g1.f) _ fun w F2 H2 g2 r2 => ?_
          exact cmp_ok e3 g2.in_ (r1.mono g2.f) r2 (q _ F2 H2 (g1.trans g2) (.bl k))
theorem st_cmp {a b : PySem.Expr} {op : CmpOp} {pos : Pos} {f g : Sl → Out} (h1 : SE c sc asg a f) (h2 : SE c sc asg b g) : ST c sc asg (.Compare a [op] [b] pos) fun σ => if behindInMarks op b then none else (f σ).bind fun x => (g σ).bind fun y => cmp op x.1 y.1 := by
  by_cases hm : behindInMarks op b = true
  · simp only [hm, if_true]
    exact ST.none
  · have hm' : behindInMarks op b = false := by simpa using hm
    simp only [hm']
    obtain ⟨t, a1, a2⟩ := h1
    obtain ⟨u, b1, b2⟩ := h2
    refine ⟨tTest (tOp (rC c.K op) t u), fun X x => pt_cmpR (by rw [← x.K]; exact op_C (units_of x) op) (a1 X x) (b1 X x) hm', fun σp k e => ?_⟩
    cases e1 : f σp with
    | none => simp [e1] at e
    | some p =>
      cases e2 : g σp with
      | none => simp [e1, e2] at e
      | some p2 =>
        simp [e1, e2] at e
        intro F H σ s vr Q q
        refine (a2 σp p.1 p.2 e1).s F H σ s vr _ fun v F1 H1 g1 r1 => ?_
        refine (b2 σp p2.1 p2.2 e2).s F1 H1 σ g1.in_ (vr.mono g1.f) _ fun w F2 H2 g2 r2 => ?_
        exact cmp_ok e g2.in_ (r1.mono g2.f) r2 ⟨k, rfl, q F2 H2 (g1.trans g2)⟩
theorem se_if {k a b : PySem.Expr} {pos : Pos} {f : Sl → Option Bool} {g g' : Sl → Out} (h0 : ST c sc asg k f) (h1 : SE c sc asg a g) (h2 : SE c sc asg b g') : SE c sc asg (.IfExp k a b pos) fun σ => (f σ).bind fun k => if k then g σ else g' σ := by
  obtain ⟨t, a1, a2⟩ := h0
  obtain ⟨u, b1, b2⟩ := h1
  obtain ⟨w, c1, c2⟩ := h2
  refine ⟨tIf t u w, fun X x => pe_ifExp (a1 X x) (b1 X x) (c1 X x), fun σp z own e => ?_⟩
  cases e1 : f σp with
  | none => simp [e1] at e
  | some p =>
    simp only [e1, Option.bind_some] at e
    intro F H σ s vr Q q
    refine a2 σp p e1 F H σ s vr _ fun F1 H1 g1 => ?_
    cases p with
    | true =>
      rw [if_pos rfl] at e ⊢
      exact b2 σp z own e F1 H1 σ g1.in_ (vr.mono g1.f) Q fun v F' H' g2 r2 => q v F' H' (g1.trans g2) (r2.mono g1.h)
    | false =>
      rw [if_neg Bool.false_ne_true] at e ⊢
      exact c2 σp z own e F1 H1 σ g1.in_ (vr.mono g1.f) Q fun v F' H' g2 r2 => q v F' H' (g1.trans g2) (r2.mono g1.h)
theorem se_ix {a b : PySem.Expr} {pos : Pos} {f g : Sl → Out} (hp : PlainIx b) (h1 : SE c sc asg a f) (h2 : SE c sc asg b g) : SE c sc asg (.Subscript a b pos) fun σ => (f σ).bind fun x => (g σ).bind fun y => getIx x.1 y.1 := by
  obtain ⟨t, a1, a2⟩ := h1
  obtain ⟨u, b1, b2⟩ := h2
  refine ⟨tOp (rIxA c.K) t u, fun X x => pe_ix (by rw [← x.K]; exact ix_all (units_of x)) (a1 X x) (b1 X x) hp, fun σp z own e => ?_⟩
  cases e1 : f σp with
  | none => simp [e1] at e
  | some p =>
    cases e2 : g σp with
    | none => simp [e1, e2] at e
    | some p2 =>
      simp only [e1, e2, Option.bind_some] at e
      intro F H σ s vr Q q
      refine (a2 σp p.1 p.2 e1).s F H σ s vr _ fun v F1 H1 g1 r1 => ?_
      refine (b2 σp p2.1 p2.2 e2).s F1 H1 σ g1.in_ (vr.mono g1.f) _ fun w F2 H2 g2 r2 => ?_
      have ho : own = false := (getIx_ok (Q := fun _ _ => True) e g2.in_ (r1.mono g2.f) r2 fun _ _ => trivial).2
      subst ho
      exact (getIx_ok e g2.in_ (r1.mono g2.f) r2 fun w' r3 => q w' F2 H2 (g1.trans g2) (.of r3)).1
theorem se_rev {a : PySem.Expr} {k : Nat} {p1 p2 p3 pos : Pos} {f : Sl → Out} (h1 : SE c sc asg a f) : SE c sc asg (.Subscript a (.Slice none none (some (.UnaryOp .USub (.Constant (.int 1) k p1) p2)) p3) pos) fun σ => (f σ).bind fun x => revL x.1 := by
  obtain ⟨t, a1, a2⟩ := h1
  refine ⟨tRevL c.K t, fun X x => by rw [← x.K]; exact pe_revL (a1 X x), fun σp z own e => ?_⟩
  cases e1 : f σp with
  | none => simp [e1] at e
  | some p =>
    simp only [e1, Option.bind_some] at e
    intro F H σ s vr Q q
    refine (a2 σp p.1 p.2 e1).s F H σ s vr _ fun v F1 H1 g1 r1 => ?_
    unfold revL at e
    split at e
    · rename_i xs hx
      cases e
      rw [hx] at r1
      obtain ⟨a', vs, rfl, h3, r3⟩ := r1.ofLst
      refine ⟨a', vs, rfl, Same.sqL g1.in_ h3, fun p' hp' => ?_⟩
      have g2 := Grow.laid (o := .lst vs.reverse) g1.in_ hp'
      exact q _ _ _ (g1.trans g2) (.of (.lst (.inl (.inl upd_same)) (r3.rev.mono g2.f)))
    · cases e
theorem se_sl {a : PySem.Expr} {lo hi : Option PySem.Expr} {pos p2 : Pos} {f : Sl → Out} {l h : Sl → Option (Option Int)} (h1 : SE c sc asg a f) (h2 : SO c sc asg lo l) (h3 : SO c sc asg hi h) :
    SE c sc asg (.Subscript a (.Slice lo hi none p2) pos) fun σ => (f σ).bind fun x => (l σ).bind fun l => (h σ).bind fun h => getSl x.1 l h := by
  obtain ⟨t, a1, a2⟩ := h1
  obtain ⟨u, b1, b2⟩ := h2
  obtain ⟨w, c1, c2⟩ := h3
  refine ⟨tSl (rSl c.K) t u w, fun X x => pe_slice (by rw [← x.K]; exact sl_seq) (a1 X x) (b1 X x) (c1 X x), fun σp z own e => ?_⟩
  cases e1 : f σp with
  | none => simp [e1] at e
  | some p =>
    cases e2 : l σp with
    | none => simp [e1, e2] at e
    | some o1 =>
      cases e3 : h σp with
      | none => simp [e1, e2, e3] at e
      | some o2 =>
        simp only [e1, e2, e3, Option.bind_some] at e
        intro F H σ s vr Q q
        refine (a2 σp p.1 p.2 e1).s F H σ s vr _ fun v F1 H1 g1 r1 => ?_
        refine b2 σp o1 e2 F1 H1 σ g1.in_ (vr.mono g1.f) _ fun F2 H2 g2 => ?_
        refine c2 σp o2 e3 F2 H2 σ g2.in_ ((vr.mono g1.f).mono g2.f) _ fun F3 H3 g3 => ?_
        exact getSl_ok e g3.in_ ((r1.mono g2.f).mono g3.f) fun w' F' H' g4 r4 => q w' F' H' (((g1.trans g2).trans g3).trans g4) (r4.mono ((g1.h.trans g2.h).trans g3.h))
theorem st_boolT {op : BoolOp} {pos : Pos} {f : Sl → PySem.Expr → Option Bool} : ∀ {es : List PySem.Expr}, (∀ e ∈ es, ST c sc asg e fun σ => f σ e) → ∃ t, (∀ X, CxOk c sc asg X → PW X (.BoolOp op es pos) t) ∧ ∀ σp b, boolT (f σp) op es = some b → EvT c.K c.B t σp b
  | [], _ => ⟨ttF, fun _ _ => pw_F, fun σp b h => by simp only [boolT] at h; cases h⟩
  | [e], h => by
    obtain ⟨t, a1, a2⟩ := h e (List.mem_cons_self ..)
    cases op with
    | And => exact ⟨t, fun X x => pw_and1 (a1 X x), fun σp b q => a2 σp b q⟩
    | Or => exact ⟨t, fun X x => pw_or1 (a1 X x), fun σp b q => a2 σp b q⟩
  | e :: e' :: es, h => by
    obtain ⟨t, a1, a2⟩ := h e (List.mem_cons_self ..)
    obtain ⟨u, b1, b2⟩ := st_boolT (op := op) (pos := pos) (f := f) (es := e' :: es) fun e he => h e (List.mem_cons_of_mem _ he)
    cases op with
    | And =>
      refine ⟨tAnd t u, fun X x => pw_and (a1 X x) (b1 X x), fun σp b q => ?_⟩
      simp only [boolT] at q
      cases e1 : f σp e with
      | none => simp [e1] at q
      | some k =>
        simp only [e1, Option.bind_some] at q
        intro F H σ s vr Q qq
        refine a2 σp k e1 F H σ s vr _ fun F1 H1 g1 => ?_
        cases k with
        | true =>
          simp only [if_true] at q
          exact b2 σp b q F1 H1 σ g1.in_ (vr.mono g1.f) Q fun F' H' g2 => qq F' H' (g1.trans g2)
        | false =>
          simp only [Bool.false_eq_true, if_false] at q
          cases q
          exact qq F1 H1 g1
    | Or =>
      refine ⟨tOr t u, fun X x => pw_or (a1 X x) (b1 X x), fun σp b q => ?_⟩
      simp only [boolT] at q
      cases e1 : f σp e with
      | none => simp [e1] at q
      | some k =>
        simp only [e1, Option.bind_some] at q
        intro F H σ s vr Q qq
        refine a2 σp k e1 F H σ s vr _ fun F1 H1 g1 => ?_
        cases k with
        | false =>
          simp only [Bool.false_eq_true, if_false] at q
          exact b2 σp b q F1 H1 σ g1.in_ (vr.mono g1.f) Q fun F' H' g2 => qq F' H' (g1.trans g2)
        | true =>
          simp only [if_true] at q
          cases q
          exact qq F1 H1 g1
theorem st_not {a : PySem.Expr} {pos : Pos} {f : Sl → Option Bool} (h1 : ST c sc asg a f) : ST c sc asg (.UnaryOp .Not a pos) fun σ => (f σ).map (!·) := by
  obtain ⟨t, a1, a2⟩ := h1
  refine ⟨tNot t, fun X x => pt_not (a1 X x), fun σp b e => ?_⟩
  cases e1 : f σp with
  | none => simp [e1] at e
  | some k =>
    simp only [e1, Option.map_some] at e
    cases e
    intro F H σ s vr Q q
    exact a2 σp k e1 F H σ s vr _ fun F1 H1 g1 => q F1 H1 g1
theorem st_truth {a : PySem.Expr} {f : Sl → Out} (h1 : SE c sc asg a f) (he : ∀ env whole, isTrue a env whole = (do let v ← whole; standAt a.pos; holding [v] (truthy v))) : ST c sc asg a fun σ => (f σ).bind fun x => truth x.1 := by
  obtain ⟨t, a1, a2⟩ := h1
  refine ⟨fun σ H Q => t σ H fun x H' => ∃ k, TruV c.K x H' k ∧ Q k H', fun X x => by rw [← x.K]; exact pt_truth (a1 X x) (he _), fun σp b e => ?_⟩
  cases e1 : f σp with
  | none => simp [e1] at e
  | some p =>
    simp only [e1, Option.bind_some] at e
    intro F H σ s vr Q q
    refine (a2 σp p.1 p.2 e1).s F H σ s vr _ fun v F1 H1 g1 r1 => ?_
    exact ⟨b, truth_ok e g1.in_ r1, q F1 H1 g1⟩
theorem so_none : SO c sc asg none fun _ => some none := ⟨tNoPart, fun _ _ => po_none, fun σp o e => by
  cases e
  exact fun F H σ s vr Q q => q F H (Grow.refl s)⟩
theorem so_some {a : PySem.Expr} {f : Sl → Out} (h1 : SE c sc asg a f) : SO c sc asg (some a) fun σ => (f σ).bind fun x => (match x.1 with | .int i => some (some i) | _ => none) := by
  obtain ⟨t, a1, a2⟩ := h1
  refine ⟨tPart t, fun X x => po_some (a1 X x), fun σp b e => ?_⟩
  cases e1 : f σp with
  | none => simp [e1] at e
  | some p =>
    obtain ⟨x, o⟩ := p
    simp only [e1, Option.bind_some] at e
    split at e
    · cases e
      intro F H σ s vr Q q
      refine (a2 σp _ o e1).s F H σ s vr _ fun v F1 H1 g1 r1 => ?_
      cases r1
      exact ⟨_, rfl, q F1 H1 g1⟩
    · cases e
theorem seqOf_len {x : PV} {xs : List PV} (h : seqOf x = some xs) : xs.length ≤ big := by
  unfold seqOf at h
  split at h
  · split at h
    · cases h; assumption
    · cases h
  · split at h
    · cases h; assumption
    · cases h
  · cases h
theorem intsFrom_len : ∀ (n : Nat) (lo : Int), (intsFrom lo n).length = n
  | 0, _ => rfl
  | n + 1, lo => by show (intsFrom (lo + 1) n).length + 1 = n + 1; rw [intsFrom_len]
theorem evI_len {n : Nat} {e : PySem.Expr} {σp : Sl} {xs : List PV} (h : evI T c.N n sc σp e = some xs) : xs.length ≤ big := by
  cases n with
  | zero => simp only [evI] at h; cases h
  | succ n =>
    unfold evI at h
    split at h
    · cases h
    · split at h
      · split at h
        · split at h
          · obtain ⟨p, _, h⟩ := Option.bind_eq_some_iff.mp h
            (first | unfold rng1 at h | unfold rng2 at h); split at h
            · split at h
              · rename_i hc
                rw [Bool.and_eq_true, decide_eq_true_eq] at hc
                cases h
                rw [intsFrom_len]
                exact hc.2
              · cases h
            · cases h
          · obtain ⟨p, _, h⟩ := Option.bind_eq_some_iff.mp h
            obtain ⟨p2, _, h⟩ := Option.bind_eq_some_iff.mp h
            (first | unfold rng1 at h | unfold rng2 at h); split at h
            · split at h
              · rename_i hc
                rw [Bool.and_eq_true, decide_eq_true_eq] at hc
                cases h
                rw [intsFrom_len]
                exact hc.2
              · cases h
            · cases h
          · cases h
        · cases h
      · obtain ⟨p, _, h⟩ := Option.bind_eq_some_iff.mp h
        exact seqOf_len h
    · obtain ⟨p, _, h⟩ := Option.bind_eq_some_iff.mp h
      exact seqOf_len h
end
end Pv

/-! Part J: all expressions, together -/
namespace Pv
open PySem L2 PySem.Spec PyProof.Rows

section
variable {c : Cc} {T : Tb}
theorem starred_none {n : Nat} {sc : Scope} {e : PySem.Expr} {p : Pos} : ∀ σ, evE T c.N n sc σ (.Starred e p) = none := fun σ => by
  cases n <;> rfl
theorem evE_star {n : Nat} {sc : Scope} {a : PySem.Expr} : ∀ e p, a = .Starred e p → ∀ σ, evE T c.N n sc σ a = none := fun e p q σ => by
  subst q; exact starred_none σ
theorem args_len {n : Nat} {sc : Scope} {es : List PySem.Expr} : ∀ σp xs, evEs (evE T c.N n sc σp) es = some xs → xs.length = es.length ∧ starB es = false := fun σp xs h => ⟨evEs_length h, starB_ev h⟩
structure Sound (c : Cc) (T : Tb) (n : Nat) : Prop where
  e : ∀ sc asg e, SE c sc asg e fun σ => evE T c.N n sc σ e
  t : ∀ sc asg e, ST c sc asg e fun σ => evT T c.N n sc σ e
  o : ∀ sc asg e, SO c sc asg e fun σ => evO T c.N n sc σ e
  i : ∀ sc asg e, SI c sc asg e fun σ => evI T c.N n sc σ e
theorem genFold_of {e : PySem.Expr} (h : isNC e = true) : ∀ env x, genFold e env x = pure x := fun env x => by
  cases e <;> first | rfl | cases h
/-- the surroundings of a generator expression's element -/
theorem TabOk.off (ok : TabOk c T) : TabOk { c with gn := false } (T.wg false) := ⟨ok.con, ok.pos, ok.key, ok.blt, ok.cls, ok.nd, fun h => nomatch h⟩
def evG (T : Tb) (N : List Str) (n : Nat) (sc : Scope) (σ : Sl) (f : Str) (args : List PySem.Expr) : Out := match args with
          | [.GeneratorExp elt [⟨tg, it, [], z⟩] scope _] => if decide (z = 0) && blkC N sc scope (ownOf N scope) && genS scope && isNC it then (evI T N n sc σ it).bind fun items =>
              (qAll (f == "any") (fun x => updTK N scope (asgOf scope) tg x fun us => (evE (T.wg false) N n scope (app us (wipeP σ ((ownOf N scope).map (·.2)))) elt).bind fun y => blOf y.1) items).bind fun b => sh (.bl b) else none
          | _ => none
theorem sound_gx {n : Nat} (ih : Sound c T n) (ih2 : Sound { c with gn := false } (T.wg false) n) (ok : TabOk c T) (sc : Scope) (asg : Str → Bool) (f : Str) (fp : Pos) (args : List PySem.Expr) (pos : Pos) (hgl : glB sc f = true) (hg : T.gen = true) (hf : (f == "all" || f == "any") = true) :
    SE c sc asg (.Call (.Name f fp) args [] pos) fun σ => evG T c.N n sc σ f args := by
  by_cases h : ∃ elt tg it z scope gp, args = [.GeneratorExp elt [⟨tg, it, [], z⟩] scope gp]
  · obtain ⟨elt, tg, it, z, scope, gp, rfl⟩ := h
    by_cases hb : (decide (z = 0) && blkC c.N sc scope (ownOf c.N scope) && genS scope && isNC it) = true
    · have hb' := hb
      rw [Bool.and_eq_true, Bool.and_eq_true, Bool.and_eq_true, decide_eq_true_eq] at hb'
      obtain ⟨⟨⟨rfl, hb1⟩, hb2⟩, hb3⟩ := hb'
      have hf' : f = if (f == "any") then "any" else "all" := by
        by_cases e : f = "any"
        · rw [e]; rfl
        · have e2 : (f == "any") = false := by simpa using e
          rw [e2] at hf ⊢
          simpa using hf
      refine (se_gx (gpos := gp) (pos := pos) (fp := fp) (tg := tg) (sv := f == "any") hf' ok.nd hb1 hb2 hgl (ok.gen hg) (genFold_of hb3) (ih.i sc asg it) (ih2.e scope (asgOf scope) elt)).congr fun σ => ?_
      have hb0 : (decide ((0 : Nat) = 0) && blkC c.N sc scope (ownOf c.N scope) && genS scope && isNC it) = true := by simp [hb1, hb2, hb3]
      refine Eq.trans (if_pos hb0) ?_
      congr 1
      funext items
      congr 2
      funext x
      rw [updTK_eq]
      cases updT c.N scope (asgOf scope) tg x <;> rfl
    · exact SE.none.congr fun σ => by simp only [evG, hb]; rfl
  · refine SE.none.congr fun σ => ?_
    unfold evG
    split
    · exact absurd ⟨_, _, _, _, _, _, rfl⟩ h
    · rfl
theorem sound_call {n : Nat} (ih : Sound c T n) (ih2 : Sound { c with gn := false } (T.wg false) n) (ok : TabOk c T) (sc : Scope) (asg : Str → Bool) (fn : PySem.Expr) (args : List PySem.Expr) (kws : List Keyword) (pos : Pos) : SE c sc asg (.Call fn args kws pos) fun σ => evE T c.N (n + 1) sc σ (.Call fn args kws pos) := by
  have IA : ∀ es, SA c sc asg es fun σ => evEs (evE T c.N n sc σ) es := fun es => sa_of (f := fun σ e => evE T c.N n sc σ e) fun e _ => ih.e sc asg e
  cases fn with
  | Name f fp =>
    cases kws with
    | nil =>
      by_cases h0 : (okNm f && glB sc f) = true
      · have h0' := h0
        rw [Bool.and_eq_true] at h0'
        cases hd : T.dfl f args.length with
        | some ds =>
          refine (se_call (fp := fp) (pos := pos) ok h0'.1 h0'.2 hd (IA args) args_len).congr fun σ => ?_
          simp only [evE, h0, if_true, hd]
        | none =>
          by_cases hb : isBlt f = true
          · by_cases hi : f = "isinstance"
            · subst hi
              cases args with
              | nil => exact SE.none.congr fun σ => by simp only [evE, h0, if_true, hd, hb]
              | cons a args =>
                cases args with
                | nil => exact SE.none.congr fun σ => by simp only [evE, h0, if_true, hd, hb]
                | cons b args =>
                  cases args with
                  | cons _ _ => exact SE.none.congr fun σ => by simp only [evE, h0, if_true, hd, hb]
                  | nil =>
                    cases b with
                    | Name t tp =>
                      by_cases ht : glB sc t = true
                      · cases hy : tyNames.lookup t with
                        | none => exact SE.none.congr fun σ => by simp only [evE, h0, if_true, hd, hb, ht, hy, Option.bind_none]
                        | some ty =>
                          refine (se_isi (fp := fp) (tp := tp) (pos := pos) ok h0'.2 ht hy (ih.e sc asg a) evE_star).congr fun σ => ?_
                          simp only [evE, h0, if_true, hd, hb, ht, hy, Option.bind_some]
                      · exact SE.none.congr fun σ => by simp only [evE, h0, if_true, hd, hb, ht]; rfl
                    | _ => exact SE.none.congr fun σ => by simp only [evE, h0, if_true, hd, hb]
            · cases args with
              | nil => exact SE.none.congr fun σ => by simp only [evE, h0, if_true, hd, hb, hi, if_false]
              | cons a args =>
                refine (se_blt (fp := fp) (pos := pos) ok hb h0'.2 (IA (a :: args)) fun σp xs h => starB_ev h).congr fun σ => ?_
                simp only [evE, h0, if_true, hd, hb, hi, if_false]
          · by_cases hg : (T.gen && (f == "all" || f == "any")) = true
            · have hg' := hg
              rw [Bool.and_eq_true] at hg'
              refine (sound_gx ih ih2 ok sc asg f fp args pos h0'.2 hg'.1 hg'.2).congr fun σ => ?_
              simp only [evE, h0, if_true, hd, hb, hg]
              rfl
            · exact SE.none.congr fun σ => by simp only [evE, h0, if_true, hd, hb, hg]; rfl
      · exact SE.none.congr fun σ => by simp only [evE, h0]; rfl
    | cons k kws =>
      cases kws with
      | cons _ _ => exact SE.none.congr fun σ => by obtain ⟨o, v, kp⟩ := k; cases o <;> rfl
      | nil =>
        obtain ⟨o, v, kp⟩ := k
        cases o with
        | none => exact SE.none.congr fun σ => by rfl
        | some k =>
          by_cases h0 : (okNm f && glB sc f && T.kwd f args.length [k]) = true
          · have h0' := h0
            rw [Bool.and_eq_true, Bool.and_eq_true] at h0'
            cases args with
            | nil => exact SE.none.congr fun σ => by simp only [evE, h0, if_true]
            | cons a args =>
              refine (se_callK (fp := fp) (pos := pos) (kp := kp) ok h0'.1.1 h0'.1.2 h0'.2 (IA (a :: args)) (ih.e sc asg v) args_len).congr fun σ => ?_
              simp only [evE, h0, if_true]
          · exact SE.none.congr fun σ => by simp only [evE, h0]; rfl
  | _ => exact SE.none.congr fun σ => by rfl
theorem SE.sh2 {sc : Scope} {asg : Str → Bool} {e : PySem.Expr} {f g : Sl → Out} {h : PV → PV → Out} (q : SE c sc asg e fun σ => (f σ).bind fun x => (g σ).bind fun y => h x.1 y.1) : SE c sc asg e fun σ => (f σ).bind fun x => (g σ).bind fun y => (h x.1 y.1).bind fun z => sh z.1 :=
  q.map fun σ x own e => by
    obtain ⟨a, e1, e⟩ := Option.bind_eq_some_iff.mp e
    obtain ⟨b, e2, e⟩ := Option.bind_eq_some_iff.mp e
    obtain ⟨z, e3, e⟩ := Option.bind_eq_some_iff.mp e
    cases e
    exact ⟨z.2, by rw [e1, e2]; exact e3, fun h => by cases h⟩
theorem SE.sh3 {sc : Scope} {asg : Str → Bool} {e : PySem.Expr} {f : Sl → Out} {g k : Sl → Option (Option Int)} {h : PV → Option Int → Option Int → Out} (q : SE c sc asg e fun σ => (f σ).bind fun x => (g σ).bind fun y => (k σ).bind fun w => h x.1 y w) : SE c sc asg e fun σ => (f σ).bind fun x => (g σ).bind fun y => (k σ).bind fun w => (h x.1 y w).bind fun z => sh z.1 :=
  q.map fun σ x own e => by
    obtain ⟨a, e1, e⟩ := Option.bind_eq_some_iff.mp e
    obtain ⟨b, e2, e⟩ := Option.bind_eq_some_iff.mp e
    obtain ⟨b', e2', e⟩ := Option.bind_eq_some_iff.mp e
    obtain ⟨z, e3, e⟩ := Option.bind_eq_some_iff.mp e
    cases e
    exact ⟨z.2, by rw [e1, e2, e2']; exact e3, fun h => by cases h⟩
theorem fold_of {e : PySem.Expr} (h : ∀ a b p, e ≠ .Set a b p) : ∀ env x, foldedSetIterable e env x = pure x := fun env x => by
  cases e <;> first | rfl | exact absurd rfl (h _ _ _)
theorem sound_lc {n : Nat} (ih : Sound c T n) (ok : TabOk c T) (sc : Scope) (asg : Str → Bool) (elt : PySem.Expr) (gens : List Comprehension) (scope : Scope) (pos : Pos) : SEL c sc asg elt gens scope pos fun σ => evE T c.N (n + 1) sc σ (.ListComp elt gens scope pos) := by
  cases gens with
  | nil => exact SEL.none.congr fun σ => by rfl
  | cons g gens =>
    obtain ⟨tg, it, ifs, z⟩ := g
    cases gens with
    | cons _ _ => exact SEL.none.congr fun σ => by unfold evE; split <;> first | rfl | (rename_i h; simp at h)
    | nil =>
      by_cases hz : z = 0
      · subst hz
        by_cases hb : blkC c.N sc scope (ownOf c.N scope) = true
        · by_cases hs : ∃ a b p, it = .Set a b p
          · obtain ⟨a, b, p, rfl⟩ := hs
            refine SEL.none.congr fun σ => ?_
            have : evI T c.N n sc σ (.Set a b p) = none := by cases n <;> rfl
            simp only [evE, hb, this, Option.bind_none]
            rfl
          · have ht : ∃ tt, (∀ X, CxOk c (relS scope sc) (asgOf scope) X → PTs X ifs tt) ∧ ∀ σp b, ifsB (evT T c.N n (relS scope sc) σp) ifs = some b → EvT c.K c.B tt σp b := by
              cases ifs with
              | nil => exact ⟨tYes, fun _ _ => pts_nil, fun σp b h => by simp only [ifsB] at h; cases h; exact fun F H σ s vr Q q => q F H (Grow.refl s)⟩
              | cons k ks =>
                cases ks with
                | nil =>
                  obtain ⟨t, a1, a2⟩ := ih.t (relS scope sc) (asgOf scope) k
                  exact ⟨t, fun X x => pts_one (a1 X x), fun σp b h => a2 σp b h⟩
                | cons _ _ => exact ⟨ttF, fun _ _ => ⟨fun _ _ _ _ _ _ h => h.elim⟩, fun σp b h => by simp only [ifsB] at h; cases h⟩
            refine (se_lc (pos := pos) (tg := tg) ok.nd hb (fold_of fun a b p q => hs ⟨a, b, p, q⟩) (ih.i sc asg it) (fun σp xs h => evI_len h) ht (ih.e (relS scope sc) (asgOf scope) elt)).congr fun σ => ?_
            have hc := fun items => compM_eq (b := fun x => (updT c.N (relS scope sc) (asgOf scope) tg x).map fun us => app us (wipeP σ ((ownOf c.N scope).map (·.2)))) (t := fun σp => ifsB (evT T c.N n (relS scope sc) σp) ifs) (e := fun σ => evE T c.N n (relS scope sc) σ elt)
              (step := fun x => updTK c.N (relS scope sc) (asgOf scope) tg x fun us =>
                (ifsB (evT T c.N n (relS scope sc) (app us (wipeP σ ((ownOf c.N scope).map (·.2))))) ifs).bind fun c1 =>
                  if c1 then (evE T c.N n (relS scope sc) (app us (wipeP σ ((ownOf c.N scope).map (·.2)))) elt).bind fun y => some (some y.1) else some none) (fun x => by rw [updTK_eq]; cases updT c.N (relS scope sc) (asgOf scope) tg x <;> rfl) items
            simp only [evE, hb]
            simp only [hc]
            rfl
        · refine SEL.none.congr fun σ => ?_
          simp only [evE, hb]
          rfl
      · refine SEL.none.congr fun σ => ?_
        simp only [evE, hz]
        rfl
theorem sound_e {n : Nat} (ih : Sound c T n) (ih2 : Sound { c with gn := false } (T.wg false) n) (ok : TabOk c T) (sc : Scope) (asg : Str → Bool) (e : PySem.Expr) : SE c sc asg e fun σ => evE T c.N (n + 1) sc σ e := by
  have IA : ∀ es, SA c sc asg es fun σ => evEs (evE T c.N n sc σ) es := fun es => sa_of (f := fun σ e => evE T c.N n sc σ e) fun e _ => ih.e sc asg e
  cases e with
  | Constant k j pos =>
    cases k with
    | none => exact (se_const (fun X => pe_non) fun F => .non).congr fun σ => by first | (simp only [evE]; done) | (simp only [evE]; rfl)
    | bool b => exact (se_const (fun X => pe_bl) fun F => .bl b).congr fun σ => by first | (simp only [evE]; done) | (simp only [evE]; rfl)
    | int i => exact (se_const (fun X => pe_int) fun F => .int i).congr fun σ => by first | (simp only [evE]; done) | (simp only [evE]; rfl)
    | str s => exact (se_const (fun X => pe_str) fun F => .str s).congr fun σ => by first | (simp only [evE]; done) | (simp only [evE]; rfl)
    | _ => exact SE.none.congr fun σ => by rfl
  | Name x pos => exact (se_name (T := T) ok.con).congr fun σ => by first | (simp only [evE]; done) | (simp only [evE]; rfl)
  | Tuple es k pos => exact (se_tup (IA es) fun σp xs h => evEs_length h).congr fun σ => by first | (simp only [evE]; done) | (simp only [evE]; rfl)
  | List es pos => exact (se_lst (IA es) fun σp xs h => evEs_length h).congr fun σ => by first | (simp only [evE]; done) | (simp only [evE]; rfl)
  | BinOp a op b pos => exact (se_binop (ih.e sc asg a) (ih.e sc asg b)).sh2.congr fun σ => by first | (simp only [evE]; done) | (simp only [evE]; rfl)
  | UnaryOp op a pos =>
    cases op with
    | USub => exact (se_neg (ih.e sc asg a)).congr fun σ => by first | (simp only [evE]; done) | (simp only [evE]; rfl)
    | Not => exact (se_not (ih.e sc asg a)).congr fun σ => by first | (simp only [evE]; done) | (simp only [evE]; rfl)
    | _ => exact SE.none.congr fun σ => by rfl
  | BoolOp op es pos => exact (se_boolV (f := fun σ e => evE T c.N n sc σ e) fun e _ => ih.e sc asg e).congr fun σ => by first | (simp only [evE]; done) | (simp only [evE]; rfl)
  | Compare a ops bs pos =>
    cases ops with
    | nil => exact SE.none.congr fun σ => by rfl
    | cons op ops =>
      cases ops with
      | cons _ _ => exact SE.none.congr fun σ => by rfl
      | nil =>
        cases bs with
        | nil => exact SE.none.congr fun σ => by rfl
        | cons b bs =>
          cases bs with
          | cons _ _ => exact SE.none.congr fun σ => by rfl
          | nil => exact (se_cmp (ih.e sc asg a) (ih.e sc asg b)).congr fun σ => by first | (simp only [evE]; done) | (simp only [evE]; rfl)
  | IfExp k a b pos => exact (se_if (ih.t sc asg k) (ih.e sc asg a) (ih.e sc asg b)).congr fun σ => by first | (simp only [evE]; done) | (simp only [evE]; rfl)
  | Subscript a b pos =>
    cases b with
    | Slice lo hi st p2 =>
      cases st with
      | none => exact (se_sl (ih.e sc asg a) (ih.o sc asg lo) (ih.o sc asg hi)).sh3.congr fun σ => by first | (simp only [evE]; done) | (simp only [evE]; rfl)
      | some st =>
        by_cases hq : isRev lo hi st = true
        · have hq' : ∃ k p1 p3, lo = none ∧ hi = none ∧ st = .UnaryOp .USub (.Constant (.int 1) k p1) p3 := by
            unfold isRev at hq
            split at hq
            · rename_i i k p1 p3
              have : i = 1 := by simpa using hq
              subst this
              exact ⟨k, p1, p3, rfl, rfl, rfl⟩
            · cases hq
          obtain ⟨k, p1, p3, rfl, rfl, rfl⟩ := hq'
          exact (se_rev (ih.e sc asg a)).congr fun σ => by simp only [evE, hq, if_true]
        · exact SE.none.congr fun σ => by simp only [evE, hq, if_false]; rfl
    | _ => exact (se_ix (fun _ _ => rfl) (ih.e sc asg a) (ih.e sc asg _)).sh2.congr fun σ => by first | (simp only [evE]; done) | (simp only [evE]; rfl)
  | Call fn args kws pos => exact sound_call ih ih2 ok sc asg fn args kws pos
  | ListComp elt gens scope pos => exact (sound_lc ih ok sc asg elt gens scope pos).se
  | _ => exact SE.none.congr fun σ => by rfl
theorem sound_t {n : Nat} (ih : Sound c T n) (sc : Scope) (asg : Str → Bool) (e : PySem.Expr) : ST c sc asg e fun σ => evT T c.N (n + 1) sc σ e := by
  cases e with
  | Compare a ops bs pos =>
    cases ops with
    | nil => exact ST.none.congr fun σ => by rfl
    | cons op ops =>
      cases ops with
      | cons _ _ => exact ST.none.congr fun σ => by rfl
      | nil =>
        cases bs with
        | nil => exact ST.none.congr fun σ => by rfl
        | cons b bs =>
          cases bs with
          | cons _ _ => exact ST.none.congr fun σ => by rfl
          | nil => exact (st_cmp (ih.e sc asg a) (ih.e sc asg b)).congr fun σ => by simp only [evT]
  | BoolOp op es pos =>
    obtain ⟨t, a1, a2⟩ := st_boolT (op := op) (pos := pos) (f := fun σ e => evT T c.N n sc σ e) fun e (_ : e ∈ es) => ih.t sc asg e
    exact ⟨t, fun X x => (a1 X x).pt, fun σp b h => a2 σp b (by simp only [evT] at h; exact h)⟩
  | UnaryOp op a pos =>
    cases op with
    | Not => exact (st_not (ih.t sc asg a)).congr fun σ => by simp only [evT]
    | _ => exact (st_truth (ih.e sc asg _) fun _ _ => rfl).congr fun σ => by rfl
  | IfExp k a b pos => exact ST.none.congr fun σ => by rfl
  | _ => exact (st_truth (ih.e sc asg _) fun _ _ => rfl).congr fun σ => by rfl
theorem sound_o {n : Nat} (ih : Sound c T n) (sc : Scope) (asg : Str → Bool) (e : Option PySem.Expr) : SO c sc asg e fun σ => evO T c.N (n + 1) sc σ e := by
  cases e with
  | none => exact so_none
  | some e => exact so_some (ih.e sc asg e)
theorem sound_i {n : Nat} (ih : Sound c T n) (ok : TabOk c T) (sc : Scope) (asg : Str → Bool) (e : PySem.Expr) : SI c sc asg e fun σ => evI T c.N (n + 1) sc σ e := by
  have D : SI c sc asg e fun σ => (evE T c.N n sc σ e).bind fun x => seqOf x.1 := si_seq (ih.e sc asg e)
  cases e with
  | Set _ _ _ => exact SI.none.congr fun σ => by rfl
  | Call fn args kws pos =>
    cases fn with
    | Name f fp =>
      cases kws with
      | cons _ _ => exact D.congr fun σ => by rfl
      | nil =>
        by_cases hf : f = "range"
        · subst hf
          by_cases hg : glB sc "range" = true
          · cases args with
            | nil => exact SI.none.congr fun σ => by simp only [evI, hg, if_true]
            | cons a args =>
              cases args with
              | nil => exact (si_range1 (fp := fp) (pos := pos) ok hg (ih.e sc asg a) evE_star).congr fun σ => by simp only [evI, hg, if_true]; rfl
              | cons b args =>
                cases args with
                | nil => exact (si_range2 (fp := fp) (pos := pos) ok hg (ih.e sc asg a) (ih.e sc asg b) evE_star evE_star).congr fun σ => by simp only [evI, hg, if_true]; rfl
                | cons _ _ => exact SI.none.congr fun σ => by simp only [evI, hg, if_true]
          · exact SI.none.congr fun σ => by simp only [evI, hg, if_true]; rfl
        · exact D.congr fun σ => by simp only [evI, hf, if_false]
    | _ => exact D.congr fun σ => by rfl
  | _ => exact D.congr fun σ => by rfl
theorem sound0 : ∀ (n : Nat) {c : Cc} {T : Tb}, TabOk c T → Sound c T n
  | 0, c, T, ok => ⟨fun _ _ _ => SE.none.congr fun σ => by simp only [evE], fun _ _ _ => ST.none.congr fun σ => by simp only [evT],
      fun _ _ _ => ⟨toF, fun _ _ => po_F, fun σp o h => by simp only [evO] at h; cases h⟩, fun _ _ _ => SI.none.congr fun σ => by simp only [evI]⟩
  | n + 1, c, T, ok => ⟨sound_e (sound0 n ok) (sound0 n ok.off) ok, sound_t (sound0 n ok), sound_o (sound0 n ok), sound_i (sound0 n ok) ok⟩
theorem sound (ok : TabOk c T) (n : Nat) : Sound c T n := sound0 n ok
theorem sound_lcn (ok : TabOk c T) : ∀ n sc asg elt gens scope pos, SEL c sc asg elt gens scope pos fun σ => evE T c.N n sc σ (.ListComp elt gens scope pos)
  | 0, _, _, _, _, _, _ => SEL.none.congr fun σ => by simp only [evE]
  | n + 1, sc, asg, elt, gens, scope, pos => sound_lc (sound ok n) ok sc asg elt gens scope pos
end
end Pv

/-! Part K: the evaluator of statements -/
namespace Pv
open PySem L2

inductive Slot where
  | emp | val (x : PV)
  /-- a list, or a dict, of one's own -/
  | ow (d : Bool) (xs : List PV)
abbrev Slot.own (xs : List PV) : Slot := .ow false xs
abbrev Slot.dct (xs : List PV) : Slot := .ow true xs
def mkO : Bool → List PV → PV
  | false, xs => .lst xs
  | true, xs => .dct xs
abbrev Fm := List Slot
def vis1 : Slot → Option PV
  | .val x => some x | _ => none
def thaw1 : Slot → Option PV
  | .val x => some x | .ow d xs => some (mkO d xs) | .emp => none
def vis (σ : Fm) : Sl := σ.map vis1
def thaw (σ : Fm) : Sl := σ.map thaw1
def frz1 (b : Bool) : Slot → Slot
  | .ow d xs => if b then .val (mkO d xs) else .ow d xs
  | s => s
def freezeFrom (q : Nat → Bool) : Nat → Fm → Fm
  | _, [] => []
  | i, s :: r => frz1 (q i) s :: freezeFrom q (i + 1) r
def freeze (q : Nat → Bool) (σ : Fm) : Fm := freezeFrom q 0 σ
/-- the names that occur -/
def occ : Nat → PySem.Expr → List Str
  | 0, _ => []
  | n + 1, e => match e with
    | .Name x _ => [x]
    | .BoolOp _ es _ => es.flatMap (occ n)
    | .BinOp a _ b _ => occ n a ++ occ n b
    | .UnaryOp _ a _ => occ n a
    | .IfExp a b c _ => occ n a ++ occ n b ++ occ n c
    | .Compare a _ bs _ => occ n a ++ bs.flatMap (occ n)
    | .Call f es ks _ => occ n f ++ es.flatMap (occ n) ++ ks.flatMap (fun k => occ n k.value)
    | .Attribute a _ _ => occ n a
    | .Subscript a b _ => occ n a ++ occ n b
    | .Slice a b c _ => (match a with | some a => occ n a | none => []) ++ (match b with | some b => occ n b | none => [])
    | .List es _ => es.flatMap (occ n)
    | .Tuple es _ _ => es.flatMap (occ n)
    | .ListComp e gs _ _ => occ n e ++ gs.flatMap (fun g => occ n g.iter ++ g.ifs.flatMap (occ n))
    | .GeneratorExp e gs _ _ => occ n e ++ gs.flatMap (fun g => occ n g.iter ++ g.ifs.flatMap (occ n))
    | _ => []
def frzOf (N : List Str) (e : PySem.Expr) (σ : Fm) : Fm := freeze (fun i => match N[i]? with | some x => (occ 30 e).any (· == x) | none => false) σ

def isOwn : Slot → Bool
  | .ow _ _ => true | _ => false
/-- some list of one's own occurs -/
def ownAt (N : List Str) (σ : Fm) (e : PySem.Expr) : Bool := σ.any isOwn && (σ.zip N).any fun q => isOwn q.1 && (occ 30 e).any (· == q.2)
/-- an expression in a frame with lists of its own: with them shared for good (b), or lent -/
def evTop (b : Bool) (N : List Str) (f : Sl → PySem.Expr → Out) (σ : Fm) (e : PySem.Expr) : Option (PV × Bool × Fm) :=
  if ownAt N σ e then (if b then (f (vis (frzOf N e σ)) e).bind fun p => some (p.1, p.2, frzOf N e σ)
      else (f (thaw σ) e).bind fun p => if p.1.flat then some (p.1, false, σ) else none)
  else (f (vis σ) e).bind fun p => some (p.1, p.2, σ)
def ownT : Option (PV × Bool × Fm) → Option (List PV × Fm)
  | some (.lst xs, true, σ) => some (xs, σ)
  | _ => none
/-- a new list, made while one's own lists are lent -/
def ownL (N : List Str) (f : Sl → PySem.Expr → Out) (σ : Fm) (e : PySem.Expr) : Option (List PV × Fm) :=
  if ownAt N σ e then (ownO (f (thaw σ) e)).bind fun ys => if PV.flats ys then some (ys, σ) else none
  else (ownO (f (vis σ) e)).bind fun ys => some (ys, σ)
/-- its value is a list of its own, by its looks -/
def frE (T : Tb) : PySem.Expr → Bool
  | .List _ _ => true
  | .ListComp _ _ _ _ => true
  | .Call (.Name f _) _ _ _ => T.own f || f == "list"
  | _ => false
/-- what a loop lays aside, or shares -/
def clr : List (Nat × Bool) → Fm → Fm
  | [], σ => σ
  | q :: r, σ => clr r (if q.2 then freeze (fun j => j == q.1) σ else σ.set q.1 .emp)
def evTst (f : Sl → PySem.Expr → Option Bool) (σ : Fm) (e : PySem.Expr) : Option Bool := f (thaw σ) e
def evItr (N : List Str) (f : Sl → PySem.Expr → Option (List PV)) (σ : Fm) (e : PySem.Expr) : Option (List PV × Fm) :=
  if ownAt N σ e then (f (vis (frzOf N e σ)) e).bind fun xs => some (xs, frzOf N e σ)
  else (f (vis σ) e).bind fun xs => some (xs, σ)

inductive Fl where
  | nx (σ : Fm) | rt (x : PV) (own : Bool) | bk (σ : Fm) | ct (σ : Fm)
def slotOf (x : PV) (own : Bool) : Slot := if own then (match x with | .lst xs => .own xs | x => .val x) else .val x
def appF : List (Nat × PV) → Fm → Fm
  | [], σ => σ
  | u :: us, σ => appF us (σ.set u.1 (.val u.2))
def thenF (f : Fl) (k : Fm → Option Fl) : Option Fl := match f with
  | .nx σ => k σ
  | f => some f
def loopF (cl : Fm → Fm) (f : Fl) (k : Fm → Option Fl) : Option Fl := match f with
  | .nx σ => k (cl σ)
  | .ct σ => k (cl σ)
  | .bk σ => some (.nx (cl σ))
  | .rt x o => some (.rt x o)
def forL (cl : Fm → Fm) (bind : PV → Fm → Option Fm) (body : Fm → Option Fl) : List PV → Fm → Option Fl
  | [], σ => some (.nx σ)
  | x :: r, σ => (bind x σ).bind fun σ1 => (body σ1).bind fun f => loopF cl f (forL cl bind body r)
def whL (cl : Fm → Fm) (test : Fm → Option Bool) (body : Fm → Option Fl) : Nat → Fm → Option Fl
  | 0, _ => none
  | w + 1, σ => (test σ).bind fun b => if b then (body σ).bind fun f => loopF cl f (whL cl test body w) else some (.nx σ)
def exL (f : Fm → Stmt → Option Fl) : List Stmt → Fm → Option Fl
  | [], σ => some (.nx σ)
  | [s], σ => f σ s
  | s :: r, σ => (f σ s).bind fun g => thenF g (exL f r)
def storeN (N : List Str) (sc : Scope) (x : Str) (s : Slot) (σ : Fm) : Option Fm :=
  (idx N x).bind fun i => if locB sc x then some (σ.set i s) else none
/-- a, b = e1, e2 whose stores are swapped -/
def parB (sc : Scope) (ts vs : List PySem.Expr) : Option (Str × Str) := match ts, vs with
  | [.Name x px, .Name y py], [a, b] =>
    if decide (sc.names.lookup x = some .local) && decide (sc.names.lookup y = some .local) && (py.line == px.line) && !(x == y) && !(starB [a, b]) && !([a, b].all (foldedForSure 8)) && !([a, b].all (constantsAlone 8))
      then some (x, y) else none
  | _, _ => none
def isComp : PySem.Expr → Bool
  | .ListComp _ _ _ _ => true | .SetComp _ _ _ _ => true | .DictComp _ _ _ _ _ => true | _ => false
def isLC : PySem.Expr → Bool
  | .ListComp _ _ _ _ => true | _ => false
def isTup : PySem.Expr → Bool
  | .Tuple _ _ _ => true | .List _ _ => true | _ => false
def isSl : PySem.Expr → Bool
  | .Slice _ _ _ _ => true | _ => false
/-- name = [..]: does the store come within the comprehension's end -/
def swapB (sc : Scope) (x : Str) (px : Pos) (e : PySem.Expr) : Bool := match e with
  | .ListComp _ _ s p => decide (sc.names.lookup x = some .local) && (px.line == p.line) && !(s.names.any fun q => q.1 == x && (q.2 == .local || q.2 == .cell))
  | _ => false

def isD0 : PySem.Expr → Bool
  | .Dict [] [] _ => true | _ => false
/-- behind an if: what is laid aside -/
def clrF (l : List (Nat × Bool)) : Fl → Fl
  | .nx σ => .nx (clr l σ)
  | f => f
def exS (T : Tb) (N : List Str) (M W : Nat) (sc : Scope) : Nat → Fm → Stmt → Option Fl
  | 0, _, _ => none
  | n + 1, σ, s => match s with
    | .Pass _ => some (.nx σ)
    | .Break _ => some (.bk σ)
    | .Continue _ => some (.ct σ)
    | .Return none _ => some (.rt .non false)
    | .Return (some (.Name x p)) pos => if okNm x && visB sc x then (match idx N x with
        | some i => (match σ[i]? with
          | some (.ow false xs) => some (.rt (.lst xs) true)
          | some (.val v) => some (.rt v false)
          | _ => none)
        | none => none) else (evTop (T.frz pos.line pos.col) N (evE T N M sc) σ (.Name x p)).bind fun p => some (.rt p.1 p.2.1)
    | .Return (some e) pos => (evTop (T.frz pos.line pos.col) N (evE T N M sc) σ e).bind fun p => some (.rt p.1 p.2.1)
    | .Assign [.Name x px] e pos => if isD0 e then (storeN N sc x (.dct []) σ).map .nx else if isComp e && !(isLC e) then none else
        if frE T e then (if T.frz pos.line pos.col then (ownL N (evE T N M sc) σ e).bind fun q => (storeN N sc x (.own q.1) q.2).map .nx else (ownT (evTop true N (evE T N M sc) σ e)).bind fun q => (storeN N sc x (.own q.1) q.2).map .nx)
        else (evTop (T.frz pos.line pos.col) N (evE T N M sc) σ e).bind fun p => (storeN N sc x (.val p.1) p.2.2).map .nx
    | .Assign [.Tuple ts _ _] (.Tuple vs _ _) pos => (parB sc ts vs).bind fun xy =>
        (match vs with
        | [a, b] => (evTop (T.frz pos.line pos.col) N (evE T N M sc) σ a).bind fun p => (evTop (T.frz pos.line pos.col) N (evE T N M sc) p.2.2 b).bind fun q =>
            (storeN N sc xy.1 (.val p.1) q.2.2).bind fun σ1 => (storeN N sc xy.2 (.val q.1) σ1).map .nx
        | _ => none)
    | .Assign [.Tuple ts k pt] e pos => if isTup e || isComp e then none else
        (evTop (T.frz pos.line pos.col) N (evE T N M sc) σ e).bind fun p => (updT N sc (fun _ => true) (.Tuple ts k pt) p.1).map fun us => .nx (appF us p.2.2)
    | .Assign [.Subscript (.Name x _) ie _] e pos => if isComp e || isSl ie || !(okNm x && visB sc x) then none else (evTop (T.frz pos.line pos.col) N (evE T N M sc) σ e).bind fun p => (idx N x).bind fun i =>
        (match p.2.2[i]? with
        | some (.ow false _) => (evTop (T.frz pos.line pos.col) N (evE T N M sc) p.2.2 ie).bind fun q => (match q.2.2[i]?, q.1 with
          | some (.ow false xs), .int k => (ixN xs.length k).map fun j => .nx (q.2.2.set i (.own (xs.set j p.1)))
          | _, _ => none)
        | some (.ow true _) => (evTop (T.frz pos.line pos.col) N (evE T N M sc) p.2.2 ie).bind fun q => (match q.2.2[i]? with
          | some (.ow true xs) => (dSet xs q.1 p.1).map fun ys => .nx (q.2.2.set i (.dct ys))
          | _ => none)
        | _ => none)
    | .Expr (.Call (.Attribute (.Name x _) m ap) args [] cp) pos => if !(okNm x && visB sc x && (ap.endLine == cp.line)) then none else (idx N x).bind fun i =>
        (match σ[i]? with
        | some (.ow false _) => if m = "append" then (match args with
            | [a] => if starB [a] then none else (evTop (T.frz pos.line pos.col) N (evE T N M sc) σ a).bind fun p => (match p.2.2[i]? with
              | some (.ow false xs) => if xs.length < big then some (.nx (p.2.2.set i (.own (xs ++ [p.1])))) else none
              | _ => none)
            | _ => none)
          else if m = "pop" then (match args, σ[i]? with
            | [], some (.ow false xs) => if xs.isEmpty then none else some (.nx (σ.set i (.own xs.dropLast)))
            | _, _ => none)
          else none
        | _ => none)
    | .If c a b pos => (evTst (evT T N M sc) σ c).bind fun k => (if k then exL (exS T N M W sc n) a σ else exL (exS T N M W sc n) b σ).map (clrF (T.fgt pos.line pos.col))
    | .While c a [] pos => whL (clr (T.fgt pos.line pos.col)) (fun σ => evTst (evT T N M sc) σ c) (exL (exS T N M W sc n) a) W (clr (T.fgt pos.line pos.col) σ)
    | .For tg it a [] pos => (evItr N (evI T N M sc) σ it).bind fun p => forL (clr (T.fgt pos.line pos.col)) (fun x σ => (updT N sc (fun _ => true) tg x).map fun us => appF us σ) (exL (exS T N M W sc n) a) p.1 (clr (T.fgt pos.line pos.col) p.2)
    | _ => none
end Pv

/-! Part L: frames with lists of their own; an expression in such a frame -/
namespace Pv
open PySem L2 PySem.Spec PyProof.Rows
open Classical

def OwnR (K : PySem.W.Frag) (F : Hp) (a : Addr) (d : Bool) (o : HO) (xs : List PV) : Prop := match d with
  | false => ∃ vs, o = .lst vs ∧ Reps K F vs xs
  | true => ∃ es, o = .ext (DN a es) ∧ RepsD K F es xs
theorem OwnR.mono {K : PySem.W.Frag} {F F' : Hp} {a : Addr} {d : Bool} {o : HO} {xs : List PV} (s : Same F F') (h : OwnR K F a d o xs) : OwnR K F' a d o xs := by
  cases d with
  | false => obtain ⟨vs, e, r⟩ := h; exact ⟨vs, e, r.mono s⟩
  | true => obtain ⟨vs, e, r⟩ := h; exact ⟨vs, e, r.mono s⟩
theorem OwnR.nt {K : PySem.W.Frag} {F : Hp} {a : Addr} {d : Bool} {o : HO} {xs : List PV} (h : OwnR K F a d o xs) : (∀ ps, o ≠ .tbl ps) ∧ (∀ ps, o ≠ .tup ps) ∧ ∀ ob ps, o ≠ .frz ob ps := by
  cases d with
  | false => obtain ⟨vs, rfl, r⟩ := h; exact ⟨(fun _ z => nomatch z), (fun _ z => nomatch z), fun _ _ z => nomatch z⟩
  | true => obtain ⟨vs, rfl, r⟩ := h; exact ⟨(fun _ z => nomatch z), (fun _ z => nomatch z), fun _ _ z => nomatch z⟩
theorem OwnR.rep {K : PySem.W.Frag} {F : Hp} {a : Addr} {d : Bool} {o : HO} {xs : List PV} (h : OwnR K F a d o xs) (e : F a = some o) : Rep K F (.ref a) (mkO d xs) := by
  cases d with
  | false => obtain ⟨vs, rfl, r⟩ := h; exact .lst (.inl (.inl e)) r
  | true => obtain ⟨vs, rfl, r⟩ := h; exact .dct e r
theorem Same.ownr {K : PySem.W.Frag} {F H H' : Hp} {a : Addr} {d : Bool} {o : HO} {xs : List PV} (s : Same H H') (h : OwnR K F a d o xs) (e : H a = some o) : H' a = some o := (s _ _ e).get h.nt.1
structure SRel (K : PySem.W.Frag) (B : List Addr) (H0 F0 F : Hp) (ad : Nat → Addr) (σp : Fm) (σ : L2.St) (H : Hp) : Prop where
  g : Grow F0 H0 F H
  len : σp.length = σ.length
  val : ∀ (i : Nat) x, σp[i]? = some (.val x) → ∃ v, σ[i]? = some (some v) ∧ Rep K F v x
  own : ∀ (i : Nat) (d : Bool) xs, σp[i]? = some (.ow d xs) → σ[i]? = some (some (.ref (ad i))) ∧ H0 (ad i) = none ∧ F (ad i) = none ∧ ∃ o, H (ad i) = some o ∧ OwnR K F (ad i) d o xs
  inj : ∀ (i j : Nat) (d e : Bool) xs ys, σp[i]? = some (.ow d xs) → σp[j]? = some (.ow e ys) → ad i = ad j → i = j
  tin : Tin B F0

section
variable {K : PySem.W.Frag} {B : List Addr} {H0 F0 F H F' H' : Hp} {ad : Nat → Addr} {σp : Fm} {σ : L2.St}
theorem SRel.grow (r : SRel K B H0 F0 F ad σp σ H) (g : Grow F H F' H') : SRel K B H0 F0 F' ad σp σ H' := by
  refine ⟨r.g.trans g, r.len, fun i x e => ?_, fun i d xs e => ?_, r.inj, r.tin⟩
  · obtain ⟨v, h1, h2⟩ := r.val i x e
    exact ⟨v, h1, h2.mono g.f⟩
  · obtain ⟨h1, h2, h3, vs, h4, h5⟩ := r.own i d xs e
    exact ⟨h1, h2, g.new _ (by rw [h4]; simp) h3, vs, g.h.ownr h5 h4, h5.mono g.f⟩
theorem SRel.ownL (r : SRel K B H0 F0 F ad σp σ H) (i : Nat) (xs : List PV) (h : σp[i]? = some (.own xs)) : σ[i]? = some (some (.ref (ad i))) ∧ H0 (ad i) = none ∧ F (ad i) = none ∧ ∃ vs, H (ad i) = some (.lst vs) ∧ Reps K F vs xs := by
  obtain ⟨h1, h2, h3, o, h4, vs, rfl, h5⟩ := r.own i false xs h
  exact ⟨h1, h2, h3, vs, h4, h5⟩
theorem SRel.ownD (r : SRel K B H0 F0 F ad σp σ H) (i : Nat) (xs : List PV) (h : σp[i]? = some (.dct xs)) : σ[i]? = some (some (.ref (ad i))) ∧ H0 (ad i) = none ∧ F (ad i) = none ∧ ∃ es, H (ad i) = some (.ext (DN (ad i) es)) ∧ RepsD K F es xs := by
  obtain ⟨h1, h2, h3, o, h4, vs, rfl, h5⟩ := r.own i true xs h
  exact ⟨h1, h2, h3, vs, h4, h5⟩
theorem SRel.vis (r : SRel K B H0 F0 F ad σp σ H) : Vrel K B F (vis σp) σ := by
  refine ⟨by unfold Pv.vis; rw [List.length_map]; exact r.len, fun i x e => ?_, r.tin.mono r.g.f⟩
  unfold Pv.vis at e
  rw [List.getElem?_map] at e
  cases h : σp[i]? with
  | none => simp [h] at e
  | some s =>
    rw [h] at e
    cases s with
    | val y =>
      simp only [Option.map_some, vis1, Option.some.injEq] at e
      subst e
      exact r.val i y h
    | _ => simp [vis1] at e

/-- the heap with some of one's own lists shared -/
noncomputable def opened (q : Nat → Bool) (σp : Fm) (ad : Nat → Addr) (F H : Hp) : Hp := fun p => if ∃ i d xs, σp[i]? = some (.ow d xs) ∧ q i = true ∧ ad i = p then H p else F p
theorem opened_in {q : Nat → Bool} {i : Nat} {d : Bool} {xs : List PV} (h : σp[i]? = some (.ow d xs)) (hq : q i = true) : opened q σp ad F H (ad i) = H (ad i) := by
  unfold opened
  rw [if_pos ⟨i, d, xs, h, hq, rfl⟩]
theorem opened_out {q : Nat → Bool} {p : Addr} (h : ¬ ∃ i d xs, σp[i]? = some (.ow d xs) ∧ q i = true ∧ ad i = p) : opened q σp ad F H p = F p := by
  unfold opened
  rw [if_neg h]
theorem SRel.opens (r : SRel K B H0 F0 F ad σp σ H) (q : Nat → Bool) : Same F (opened q σp ad F H) ∧ Same (opened q σp ad F H) H := by
  refine ⟨.of fun b o e => ?_, fun b o e => ?_⟩
  · rw [opened_out]
    · exact e
    · rintro ⟨i, d, xs, h, _, rfl⟩
      rw [(r.own i d xs h).2.2.1] at e
      cases e
  · by_cases h : ∃ i d xs, σp[i]? = some (.ow d xs) ∧ q i = true ∧ ad i = b
    · unfold opened at e
      rw [if_pos h] at e
      exact .of e
    · rw [opened_out h] at e
      exact r.g.in_ b o e

theorem freezeFrom_get {q : Nat → Bool} : ∀ {σ : Fm} {k i : Nat}, (freezeFrom q k σ)[i]? = (σ[i]?).map (frz1 (q (k + i)))
  | [], k, i => by simp [freezeFrom]
  | s :: r, k, 0 => by simp [freezeFrom]
  | s :: r, k, i + 1 => by
    simp only [freezeFrom, List.getElem?_cons_succ]
    rw [freezeFrom_get]
    congr 2
    rw [show k + 1 + i = k + (i + 1) by omega]
theorem freeze_get {q : Nat → Bool} {σ : Fm} {i : Nat} : (freeze q σ)[i]? = (σ[i]?).map (frz1 (q i)) := by
  unfold freeze
  rw [freezeFrom_get, Nat.zero_add]
theorem freezeFrom_len {q : Nat → Bool} : ∀ {σ : Fm} {k : Nat}, (freezeFrom q k σ).length = σ.length
  | [], k => rfl
  | s :: r, k => by simp only [freezeFrom, List.length_cons, freezeFrom_len]
theorem freeze_own {q : Nat → Bool} {σ : Fm} {i : Nat} {d : Bool} {xs : List PV} (h : (freeze q σ)[i]? = some (.ow d xs)) : σ[i]? = some (.ow d xs) ∧ q i = false := by
  rw [freeze_get] at h
  cases e : σ[i]? with
  | none => simp [e] at h
  | some s =>
    rw [e] at h
    cases s with
    | ow d' ys =>
      cases hq : q i with
      | true => rw [hq] at h; simp [frz1] at h
      | false => rw [hq] at h; simp [frz1] at h; obtain ⟨rfl, rfl⟩ := h; exact ⟨rfl, rfl⟩
    | _ => simp [frz1] at h
theorem SRel.freeze (r : SRel K B H0 F0 F ad σp σ H) (q : Nat → Bool) : SRel K B H0 F0 (opened q σp ad F H) ad (freeze q σp) σ H := by
  obtain ⟨o1, o2⟩ := r.opens q
  refine ⟨⟨r.g.f.trans o1, r.g.h, o2, fun p h1 h2 => ?_⟩, by unfold Pv.freeze; rw [freezeFrom_len]; exact r.len, fun i x e => ?_, fun i d xs e => ?_, fun i j d e xs ys h1 h2 => r.inj i j d e xs ys (freeze_own h1).1 (freeze_own h2).1, r.tin⟩
  · rw [opened_out]
    · exact r.g.new p h1 h2
    · rintro ⟨i, d, xs, h, _, rfl⟩
      exact h1 (r.own i d xs h).2.1
  · rw [freeze_get] at e
    cases h : σp[i]? with
    | none => simp [h] at e
    | some s =>
      rw [h] at e
      cases s with
      | val y =>
        simp only [Option.map_some, frz1, Option.some.injEq, Slot.val.injEq] at e
        subst e
        obtain ⟨v, h1, h2⟩ := r.val i y h
        exact ⟨v, h1, h2.mono o1⟩
      | ow d ys =>
        cases hq : q i with
        | false => rw [hq] at e; simp [frz1] at e
        | true =>
          rw [hq] at e
          simp [frz1] at e
          subst e
          obtain ⟨h1, h2, h3, vs, h4, h5⟩ := r.own i d ys h
          exact ⟨_, h1, (h5.mono o1).rep (by rw [opened_in h hq]; exact h4)⟩
      | emp => simp [frz1] at e
  · obtain ⟨h, hq⟩ := freeze_own e
    obtain ⟨h1, h2, h3, vs, h4, h5⟩ := r.own i d xs h
    refine ⟨h1, h2, ?_, vs, h4, h5.mono o1⟩
    rw [opened_out]
    · exact h3
    · rintro ⟨j, d', ys, hj, hqj, ej⟩
      have := r.inj j i d' d ys xs hj h ej
      subst this
      rw [hq] at hqj
      cases hqj

theorem SRel.emp (r : SRel K B H0 F0 F ad σp σ H) (i : Nat) : SRel K B H0 F0 F ad (σp.set i .emp) σ H := by
  have get : ∀ (j : Nat) s, (σp.set i .emp)[j]? = some s → s = .emp ∨ σp[j]? = some s := fun j s e => by
    by_cases hj : i = j
    · subst hj
      by_cases hl : i < σp.length
      · rw [List.getElem?_set_self hl] at e
        cases e
        exact .inl rfl
      · rw [List.getElem?_eq_none (by rw [List.length_set]; omega)] at e
        cases e
    · rw [List.getElem?_set_ne hj] at e
      exact .inr e
  refine ⟨r.g, by rw [List.length_set]; exact r.len, fun j y e => ?_, fun j d xs e => ?_, fun j k d d' xs ys e1 e2 => ?_, r.tin⟩
  · rcases get j _ e with h | h
    · cases h
    · exact r.val j y h
  · rcases get j _ e with h | h
    · cases h
    · exact r.own j d xs h
  · rcases get j _ e1 with h | h1
    · cases h
    · rcases get k _ e2 with h | h2
      · cases h
      · exact r.inj j k d d' xs ys h1 h2
theorem SRel.clr : ∀ (l : List (Nat × Bool)) {F : Hp} {σp : Fm}, SRel K B H0 F0 F ad σp σ H → ∃ F', SRel K B H0 F0 F' ad (Pv.clr l σp) σ H
  | [], F, σp, r => ⟨F, r⟩
  | q :: l, F, σp, r => by
    unfold Pv.clr
    by_cases hq : q.2 = true
    · rw [if_pos hq]
      exact SRel.clr l (r.freeze _)
    · rw [if_neg hq]
      exact SRel.clr l (r.emp q.1)
/-- all of one's own lists lent -/
theorem SRel.thaw (r : SRel K B H0 F0 F ad σp σ H) : Vrel K B (opened (fun _ => true) σp ad F H) (thaw σp) σ := by
  obtain ⟨o1, o2⟩ := r.opens fun _ => true
  refine ⟨by unfold Pv.thaw; rw [List.length_map]; exact r.len, fun i x e => ?_, (r.tin.mono r.g.f).mono o1⟩
  unfold Pv.thaw at e
  rw [List.getElem?_map] at e
  cases h : σp[i]? with
  | none => simp [h] at e
  | some s =>
    rw [h] at e
    cases s with
    | val y =>
      simp only [Option.map_some, thaw1, Option.some.injEq] at e
      subst e
      obtain ⟨v, h1, h2⟩ := r.val i y h
      exact ⟨v, h1, h2.mono o1⟩
    | ow d ys =>
      simp only [Option.map_some, thaw1, Option.some.injEq] at e
      subst e
      obtain ⟨h1, h2, h3, vs, h4, h5⟩ := r.own i d ys h
      exact ⟨_, h1, (h5.mono o1).rep (by rw [opened_in h rfl]; exact h4)⟩
    | emp => simp [thaw1] at e
/-- given back: what is flat stays -/
theorem SRel.back {FB' : Hp} (r : SRel K B H0 F0 F ad σp σ H) (g : Grow (opened (fun _ => true) σp ad F H) H FB' H') :
    ∃ F', Grow F H F' H' ∧ (∀ v x, x.flat = true → Rep K FB' v x → Rep K F' v x) ∧ (∀ p, FB' p = none → F' p = none) ∧ ∀ vs xs, PV.flats xs = true → Reps K FB' vs xs → Reps K F' vs xs := by
  obtain ⟨o1, o2⟩ := r.opens fun _ => true
  have own : ∀ p, (∃ i d xs, σp[i]? = some (.ow d xs) ∧ (fun _ : Nat => true) i = true ∧ ad i = p) → F p = none ∧ ∃ d o xs, H p = some o ∧ OwnR K F p d o xs := by
    rintro p ⟨i, d, xs, h, _, rfl⟩
    obtain ⟨_, _, h3, o, h4, h5⟩ := r.own i d xs h
    exact ⟨h3, d, o, xs, h4, h5⟩
  have tp : Tups FB' (fun p => if ∃ i d xs, σp[i]? = some (.ow d xs) ∧ (fun _ : Nat => true) i = true ∧ ad i = p then none else FB' p) := fun a vs h => by
    have hn : ¬ ∃ i d xs, σp[i]? = some (.ow d xs) ∧ (fun _ : Nat => true) i = true ∧ ad i = a := fun z => by
      obtain ⟨_, d, o', us, hu, hr⟩ := own a z
      have hu' := g.h.ownr hr hu
      rcases h with h | ⟨o, h⟩
      · have := (g.in_ _ _ h).get fun ps z => nomatch z
        rw [hu'] at this
        cases this
        exact hr.nt.2.1 _ rfl
      · have := (g.in_ _ _ h).get fun ps z => nomatch z
        rw [hu'] at this
        cases this
        exact hr.nt.2.2 _ _ rfl
    rcases h with h | ⟨o, h⟩
    · left
      show (if _ then _ else _) = _
      rw [if_neg hn]
      exact h
    · refine .inr ⟨o, ?_⟩
      show (if _ then _ else _) = _
      rw [if_neg hn]
      exact h
  refine ⟨fun p => if ∃ i d xs, σp[i]? = some (.ow d xs) ∧ (fun _ : Nat => true) i = true ∧ ad i = p then none else FB' p, ⟨fun b o e => ?_, g.h, fun b o e => ?_, fun p h1 h2 => ?_⟩, fun v x f rx => rx.tups tp f, fun p h => ?_, fun vs xs f rx => rx.tups tp f⟩
  · have hn : ¬ ∃ i d xs, σp[i]? = some (.ow d xs) ∧ (fun _ : Nat => true) i = true ∧ ad i = b := fun z => by rw [(own b z).1] at e; cases e
    show Kept1 o (if _ then _ else _)
    rw [if_neg hn]
    exact (o1.trans g.f) _ _ e
  · have e : (if ∃ i d xs, σp[i]? = some (.ow d xs) ∧ (fun _ : Nat => true) i = true ∧ ad i = b then none else FB' b) = some o := e
    split at e
    · cases e
    · exact g.in_ _ _ e
  · show (if _ then _ else _) = _
    split
    · rfl
    · rename_i hn
      refine g.new p h1 ?_
      rw [opened_out hn]
      exact h2
  · show (if _ then _ else _) = _
    split
    · rfl
    · exact h
end

section
variable {c : Cc} {sc : Scope} {asg : Str → Bool}
/-- an expression in a frame -/
def EvF (c : Cc) (t : TE) (σp : Fm) (x : PV) (o : Bool) (σp' : Fm) : Prop := (∀ (i : Nat) (d : Bool) xs, σp'[i]? = some (.ow d xs) → σp[i]? = some (.ow d xs)) ∧ ∀ H0 F0 F ad σ H, SRel c.K c.B H0 F0 F ad σp σ H → ∀ Q : VK,
  (∀ v F' H', SRel c.K c.B H0 F0 F' ad σp' σ H' → Same H H' → Res c.K H F' H' v x o → Q v H') → t σ H Q
theorem frz_flat {x : PV} {o : Bool} {H F' H' : Hp} {v : V} {K : PySem.W.Frag} (f : x.flat = true) (r : Res K H F' H' v x o) : o = false := by
  cases o with
  | false => rfl
  | true =>
    unfold Res at r
    rw [if_pos rfl] at r
    obtain ⟨_, _, _, rfl, _⟩ := r
    unfold PV.flat at f
    cases f
theorem top_ok {b0 : Bool} {e : PySem.Expr} {f : Sl → PySem.Expr → Out} {t : TE} (h : ∀ σp x own, f σp e = some (x, own) → EvE c.K c.B t σp x own) {σp σp' : Fm} {x : PV} {o : Bool} (q : evTop b0 c.N f σp e = some (x, o, σp')) : EvF c t σp x o σp' := by
  unfold evTop at q
  split at q
  · split at q
    · obtain ⟨p2, e2, q⟩ := Option.bind_eq_some_iff.mp q
      cases q
      refine ⟨fun _ _ _ h => (freeze_own h).1, fun H0 F0 F ad σ H r Q k => ?_⟩
      have r2 := r.freeze (fun i => match c.N[i]? with | some x => (occ 30 e).any (· == x) | none => false)
      exact h _ _ _ e2 _ H σ r2.g.in_ r2.vis Q fun v F' H' g res => k v F' H' (r2.grow g) g.h res
    · obtain ⟨p, e1, q⟩ := Option.bind_eq_some_iff.mp q
      split at q
      · rename_i hf
        cases q
        refine ⟨fun _ _ _ h => h, fun H0 F0 F ad σ H r Q k => ?_⟩
        obtain ⟨o1, o2⟩ := r.opens fun _ => true
        refine (h _ p.1 p.2 e1).s _ H σ o2 r.thaw Q fun v FB H' g rx => ?_
        obtain ⟨F', g', back, _, _⟩ := r.back g
        exact k v F' H' (r.grow g') g'.h (.of (back v _ hf rx))
      · cases q
  · obtain ⟨p, e1, q⟩ := Option.bind_eq_some_iff.mp q
    cases q
    refine ⟨fun _ _ _ h => h, fun H0 F0 F ad σ H r Q k => ?_⟩
    exact h _ _ _ e1 F H σ r.g.in_ r.vis Q fun v F' H' g res => k v F' H' (r.grow g) g.h res
/-- a new list, while one's own are lent -/
theorem topL_ok {e : PySem.Expr} {f : Sl → PySem.Expr → Out} {t : TE} (h : ∀ σp x own, f σp e = some (x, own) → EvE c.K c.B t σp x own) {σp σp' : Fm} {x : PV} {o : Bool} (q : ((ownL c.N f σp e).map fun q => (PV.lst q.1, true, q.2)) = some (x, o, σp')) : EvF c t σp x o σp' := by
  obtain ⟨⟨ys, σ1⟩, e0, q⟩ := Option.map_eq_some_iff.mp q
  cases q
  unfold ownL at e0
  have own_of : ∀ {r : Out} {ys : List PV}, ownO r = some ys → r = some (.lst ys, true) := fun {r ys} z => by
    cases r with
    | none => cases z
    | some p =>
      obtain ⟨x, b⟩ := p
      cases x <;> cases b <;> simp [ownO] at z
      rw [z]
  split at e0
  · obtain ⟨zs, e1, e0⟩ := Option.bind_eq_some_iff.mp e0
    split at e0
    · rename_i hf
      cases e0
      refine ⟨fun _ _ _ h => h, fun H0 F0 F ad σ H r Q k => ?_⟩
      obtain ⟨o1, o2⟩ := r.opens fun _ => true
      refine h _ _ _ (own_of e1) _ H σ o2 r.thaw Q fun v FB H' g res => ?_
      obtain ⟨F', g', _, bn, bk⟩ := r.back g
      unfold Res at res
      rw [if_pos rfl] at res
      obtain ⟨p, vs, xs, ex, rfl, h1, h2, h3, rr⟩ := res
      cases ex
      exact k _ F' H' (r.grow g') g'.h (.mine h1 (bn p h2) h3 (bk _ _ hf rr))
    · cases e0
  · obtain ⟨zs, e1, e0⟩ := Option.bind_eq_some_iff.mp e0
    cases e0
    refine ⟨fun _ _ _ h => h, fun H0 F0 F ad σ H r Q k => ?_⟩
    exact h _ _ _ (own_of e1) F H σ r.g.in_ r.vis Q fun v F' H' g res => k v F' H' (r.grow g) g.h res
/-- its value shared -/
theorem EvF.s {t : TE} {σp σp' : Fm} {x : PV} {o : Bool} (h : EvF c t σp x o σp') : ∀ H0 F0 F ad σ H, SRel c.K c.B H0 F0 F ad σp σ H → ∀ Q : VK, (∀ v F' H', SRel c.K c.B H0 F0 F' ad σp' σ H' → Same H H' → Rep c.K F' v x → Q v H') → t σ H Q := by
  intro H0 F0 F ad σ H r Q k
  refine h.2 H0 F0 F ad σ H r Q fun v F' H' r' s res => ?_
  cases o with
  | false =>
    unfold Res at res
    rw [if_neg Bool.false_ne_true] at res
    exact k v F' H' r' s res
  | true =>
    unfold Res at res
    rw [if_pos rfl] at res
    obtain ⟨p, vs, xs, rfl, rfl, h1, h2, h3, rr⟩ := res
    have s1 : Same F' (upd F' p (.lst vs)) := same_upd h2
    refine k _ (upd F' p (.lst vs)) H' ⟨⟨r'.g.f.trans s1, r'.g.h, fun b u q => ?_, fun q z1 z2 => ?_⟩, r'.len, fun i x e => ?_, fun i d xs e => ?_, r'.inj, r'.tin⟩ s (.lst (.inl (.inl upd_same)) (rr.mono s1))
    · by_cases hb : b = p
      · subst hb; rw [upd_same] at q; cases q; exact h3
      · rw [upd_ne hb] at q; exact r'.g.in_ b u q
    · have : q ≠ p := fun z => by
        rw [z] at z1
        exact z1 (r.g.h.free h1)
      rw [upd_ne this]; exact r'.g.new q z1 z2
    · obtain ⟨v, a1, a2⟩ := r'.val i x e
      exact ⟨v, a1, a2.mono s1⟩
    · obtain ⟨a1, a2, a3, us, a4, a5⟩ := r'.own i d xs e
      refine ⟨a1, a2, ?_, us, a4, a5.mono s1⟩
      have : ad i ≠ p := fun z => by
        obtain ⟨_, _, _, vs', b4, _⟩ := r.own i d xs (h.1 i d xs e)
        rw [z, h1] at b4
        cases b4
      rw [upd_ne this]; exact a3
end
end Pv

/-! Part M: statements -/
namespace Pv
open PySem L2 PySem.Spec PyProof.Rows

theorem any_star : ∀ {l : List PySem.Expr}, (∀ e ∈ l, ∀ a p, e ≠ .Starred a p) → (l.any fun | .Starred .. => true | _ => false) = false
  | [], _ => rfl
  | e :: l, h => by
    rw [List.any_cons, any_star fun e' he => h e' (List.mem_cons_of_mem _ he), Bool.or_false]
    have := h e (List.mem_cons_self ..)
    cases e <;> first | rfl | exact absurd rfl (this _ _)
theorem swapped_two {env : Env} {x y : Str} {px py pt pt2 : Pos} {kt k2 : Nat} {a b : PySem.Expr} (kb : env.blockKind = .function) (kx : env.kindOf x = some .local) (ky : env.kindOf y = some .local) (hl : py.line = px.line) (hne : ¬ x = y)
    (hs : ∀ e ∈ [a, b], ∀ a p, e ≠ .Starred a p) (hf : [a, b].all (foldedForSure 8) = false) (hk : [a, b].all (constantsAlone 8) = false) :
    swappedStores [.Tuple [.Name x px, .Name y py] kt pt] (.Tuple [a, b] k2 pt2) env = pure (some [x, y]) := by
  have l1 : (y == x) = false := by simpa using fun e : y = x => hne e.symm
  have l2 : (x == y) = false := by simpa using hne
  have g2 := any_star hs
  have hn : List.filterMap (fun e : PySem.Expr => match e with
      | .Name id pos => if (env.kindOf id == some .local && pos.line == px.line) = true then some id else none
      | _ => none) [.Name x px, .Name y py] = [x, y] := by
    simp [List.filterMap_cons, kx, ky, hl]
  have g3 : ([x, y].length != [Expr.Name x px, Expr.Name y py].length || [x, y].eraseDups.length != [x, y].length) = false := by
    have : [x, y].eraseDups = [x, y] := by
      simp [List.eraseDups, List.eraseDupsBy, List.eraseDupsBy.loop, l1, l2]
    rw [this]
    rfl
  unfold swappedStores
  simp only [kb]
  refine Eq.trans (if_neg (fun h => Bool.false_ne_true h)) ?_
  refine Eq.trans (if_neg (fun h => Bool.false_ne_true (g2.symm.trans h))) ?_
  have g4 : ∀ l : List Str, l = [x, y] → (l.length != [Expr.Name x px, Expr.Name y py].length || l.eraseDups.length != l.length) = false := fun l e => by rw [e]; exact g3
  refine Eq.trans (if_neg (fun h => Bool.false_ne_true ((g4 _ hn).symm.trans h))) ?_
  refine Eq.trans (if_neg (fun h => Bool.false_ne_true (hf.symm.trans h))) ?_
  refine Eq.trans (if_neg (fun h => Bool.false_ne_true (hk.symm.trans h))) ?_
  exact congrArg (fun l => pure (some l)) hn

structure SOk (c : Cc) (sc : Scope) (X : Cx) : Prop where
  cx : CxOk c sc (fun _ => true) X
  xe : PassesOwn (model X.prog X.w) X.A X.env X.xe
  kind : sc.kind = .function
def FlowOk (K : PySem.W.Frag) (B : List Addr) (H0 F0 : Hp) : Fl → Ends → Prop
  | .nx σp, D => ∀ F ad σ H, SRel K B H0 F0 F ad σp σ H → D.nx σ H
  | .bk σp, D => ∀ F ad σ H, SRel K B H0 F0 F ad σp σ H → D.bk σ H
  | .ct σp, D => ∀ F ad σ H, SRel K B H0 F0 F ad σp σ H → D.ct σ H
  | .rt x o, D => ∀ F H v, Grow F0 H0 F H → Res K H0 F H v x o → D.rt v H
def SS (c : Cc) (sc : Scope) (st : Stmt) (f : Fm → Option Fl) : Prop := ∃ t : TS, (∀ X, SOk c sc X → PS X st t) ∧ ∀ σp fl, f σp = some fl → ∀ H0 F0 F ad σ H D, SRel c.K c.B H0 F0 F ad σp σ H → FlowOk c.K c.B H0 F0 fl D → t D σ H
def SSs (c : Cc) (sc : Scope) (st : List Stmt) (f : Fm → Option Fl) : Prop := ∃ t : TS, (∀ X, SOk c sc X → PSs X st t) ∧ ∀ σp fl, f σp = some fl → ∀ H0 F0 F ad σ H D, SRel c.K c.B H0 F0 F ad σp σ H → FlowOk c.K c.B H0 F0 fl D → t D σ H
theorem SS.none {c : Cc} {sc : Scope} {st : Stmt} : SS c sc st fun _ => none := ⟨tNever, fun _ _ => ps_never, fun _ _ h => nomatch h⟩
theorem SS.congr {c : Cc} {sc : Scope} {st : Stmt} {f g : Fm → Option Fl} (h : SS c sc st f) (q : ∀ σ, g σ = f σ) : SS c sc st g :=
  let ⟨t, a, b⟩ := h; ⟨t, a, fun σp fl e => b σp fl (by rw [← q]; exact e)⟩

section
variable {K : PySem.W.Frag} {B : List Addr} {H0 F0 F H F' H' : Hp} {ad : Nat → Addr} {σp σp' : Fm} {σ : L2.St}
theorem SRel.rebase (r : SRel K B H0 F0 F ad σp σ H) : SRel K B H0 F F ad σp σ H := ⟨⟨Same.refl _, r.g.h, r.g.in_, fun _ _ h => h⟩, r.len, r.val, r.own, r.inj, r.tin.mono r.g.f⟩
theorem SRel.join {F1 H1 : Hp} {ad1 : Nat → Addr} {σp1 : Fm} {σ1 : L2.St} (r1 : SRel K B H0 F0 F1 ad1 σp1 σ1 H1) (r : SRel K B H0 F1 F ad σp σ H) : SRel K B H0 F0 F ad σp σ H :=
  ⟨⟨r1.g.f.trans r.g.f, r.g.h, r.g.in_, fun p h1 h2 => r.g.new p h1 (r1.g.new p h1 h2)⟩, r.len, r.val, r.own, r.inj, r1.tin⟩
theorem SRel.setVal {i : Nat} {v : V} {x : PV} (r : SRel K B H0 F0 F ad σp σ H) (hx : Rep K F v x) : SRel K B H0 F0 F ad (σp.set i (.val x)) (σ.set i (some v)) H := by
  have get : ∀ (j : Nat) s, (σp.set i (.val x))[j]? = some s → (j = i ∧ i < σp.length ∧ s = .val x) ∨ (j ≠ i ∧ σp[j]? = some s) := fun j s e => by
    by_cases hj : i = j
    · subst hj
      by_cases hl : i < σp.length
      · rw [List.getElem?_set_self hl] at e
        cases e
        exact .inl ⟨rfl, hl, rfl⟩
      · rw [List.getElem?_eq_none (by rw [List.length_set]; omega)] at e
        cases e
    · rw [List.getElem?_set_ne hj] at e
      exact .inr ⟨fun z => hj z.symm, e⟩
  refine ⟨r.g, by rw [List.length_set, List.length_set]; exact r.len, fun j y e => ?_, fun j d xs e => ?_, fun j k d d' xs ys e1 e2 => ?_, r.tin⟩
  · rcases get j _ e with ⟨rfl, hl, h⟩ | ⟨hj, h⟩
    · cases h
      exact ⟨v, List.getElem?_set_self (by rw [← r.len]; exact hl), hx⟩
    · rw [List.getElem?_set_ne (fun z => hj z.symm)]
      exact r.val j y h
  · rcases get j _ e with ⟨_, _, h⟩ | ⟨hj, h⟩
    · cases h
    · rw [List.getElem?_set_ne (fun z => hj z.symm)]
      exact r.own j d xs h
  · rcases get j _ e1 with ⟨_, _, h⟩ | ⟨_, h1⟩
    · cases h
    · rcases get k _ e2 with ⟨_, _, h⟩ | ⟨_, h2⟩
      · cases h
      · exact r.inj j k d d' xs ys h1 h2
theorem SRel.setOw {i : Nat} {p : Addr} {d : Bool} {o : HO} {xs : List PV} (r : SRel K B H0 F0 F ad σp σ H) (h0 : H0 p = none) (hf : F p = none) (hp : H p = some o) (hx : OwnR K F p d o xs) (hn : ∀ j d' ys, σp[j]? = some (.ow d' ys) → ad j ≠ p) :
    SRel K B H0 F0 F (fun j => if j = i then p else ad j) (σp.set i (.ow d xs)) (σ.set i (some (.ref p))) H := by
  have get : ∀ (j : Nat) s, (σp.set i (.ow d xs))[j]? = some s → (j = i ∧ i < σp.length ∧ s = .ow d xs) ∨ (j ≠ i ∧ σp[j]? = some s) := fun j s e => by
    by_cases hj : i = j
    · subst hj
      by_cases hl : i < σp.length
      · rw [List.getElem?_set_self hl] at e
        cases e
        exact .inl ⟨rfl, hl, rfl⟩
      · rw [List.getElem?_eq_none (by rw [List.length_set]; omega)] at e
        cases e
    · rw [List.getElem?_set_ne hj] at e
      exact .inr ⟨fun z => hj z.symm, e⟩
  refine ⟨r.g, by rw [List.length_set, List.length_set]; exact r.len, fun j y e => ?_, fun j d' ys e => ?_, fun j k d1 d2 ys zs e1 e2 => ?_, r.tin⟩
  · rcases get j _ e with ⟨_, _, h⟩ | ⟨hj, h⟩
    · cases h
    · rw [List.getElem?_set_ne (fun z => hj z.symm)]
      exact r.val j y h
  · rcases get j _ e with ⟨rfl, hl, h⟩ | ⟨hj, h⟩
    · cases h
      simp only [if_true]
      exact ⟨List.getElem?_set_self (by rw [← r.len]; exact hl), h0, hf, o, hp, hx⟩
    · simp only [hj, if_false]
      rw [List.getElem?_set_ne (fun z => hj z.symm)]
      exact r.own j d' ys h
  · intro he
    rcases get j _ e1 with ⟨rfl, _, _⟩ | ⟨hj, h1⟩
    · rcases get k _ e2 with ⟨rfl, _, _⟩ | ⟨hk, h2⟩
      · rfl
      · simp only [if_true, hk, if_false] at he
        exact absurd he.symm (hn k d2 zs h2)
    · rcases get k _ e2 with ⟨rfl, _, _⟩ | ⟨hk, h2⟩
      · simp only [if_true, hj, if_false] at he
        exact absurd he (hn j d1 ys h1)
      · simp only [hj, hk, if_false] at he
        exact r.inj j k d1 d2 ys zs h1 h2 he
theorem SRel.setOwn {i : Nat} {p : Addr} {vs : List V} {xs : List PV} (r : SRel K B H0 F0 F ad σp σ H) (h0 : H0 p = none) (hf : F p = none) (hp : H p = some (.lst vs)) (hx : Reps K F vs xs) (hn : ∀ j d' ys, σp[j]? = some (.ow d' ys) → ad j ≠ p) :
    SRel K B H0 F0 F (fun j => if j = i then p else ad j) (σp.set i (.own xs)) (σ.set i (some (.ref p))) H := r.setOw (d := false) h0 hf hp ⟨vs, rfl, hx⟩ hn
/-- one's own list, or dict, is changed -/
theorem SRel.changeW {i : Nat} {d : Bool} {o : HO} {xs ys : List PV} (r : SRel K B H0 F0 F ad σp σ H) (hi : σp[i]? = some (.ow d xs)) (hx : OwnR K F (ad i) d o ys) :
    SRel K B H0 F0 F ad (σp.set i (.ow d ys)) σ (upd H (ad i) o) := by
  have hl : i < σp.length := (List.getElem?_eq_some_iff.mp hi).1
  obtain ⟨a1, a2, a3, us, a4, a5⟩ := r.own i d xs hi
  have get : ∀ (j : Nat) s, (σp.set i (.ow d ys))[j]? = some s → (j = i ∧ s = .ow d ys) ∨ (j ≠ i ∧ σp[j]? = some s) := fun j s e => by
    by_cases hj : i = j
    · subst hj
      rw [List.getElem?_set_self hl] at e
      cases e
      exact .inl ⟨rfl, rfl⟩
    · rw [List.getElem?_set_ne hj] at e
      exact .inr ⟨fun z => hj z.symm, e⟩
  have old : ∀ (j : Nat) d' zs, (σp.set i (.ow d ys))[j]? = some (.ow d' zs) → ∃ d'' zs', σp[j]? = some (.ow d'' zs') := fun j d' zs e => by
    rcases get j _ e with ⟨rfl, _⟩ | ⟨_, h⟩
    · exact ⟨d, xs, hi⟩
    · exact ⟨d', zs, h⟩
  refine ⟨⟨r.g.f, fun b o e => ?_, fun b o e => ?_, r.g.new⟩, by rw [List.length_set]; exact r.len, fun j y e => ?_, fun j d' zs e => ?_, fun j k d1 d2 zs ws e1 e2 he => ?_, r.tin⟩
  · rw [upd_ne (ne_of_none e a2)]
    exact r.g.h _ _ e
  · rw [upd_ne (ne_of_none e a3)]
    exact r.g.in_ _ _ e
  · rcases get j _ e with ⟨_, h⟩ | ⟨_, h⟩
    · cases h
    · exact r.val j y h
  · rcases get j _ e with ⟨rfl, h⟩ | ⟨hj, h⟩
    · cases h
      exact ⟨a1, a2, a3, o, upd_same, hx⟩
    · obtain ⟨b1, b2, b3, ws, b4, b5⟩ := r.own j d' zs h
      refine ⟨b1, b2, b3, ws, ?_, b5⟩
      rw [upd_ne (fun z => hj (r.inj j i d' d zs xs h hi z))]
      exact b4
  · obtain ⟨d1', zs', h1⟩ := old j d1 zs e1
    obtain ⟨d2', ws', h2⟩ := old k d2 ws e2
    exact r.inj j k d1' d2' zs' ws' h1 h2 he
theorem SRel.change {i : Nat} {vs : List V} {xs ys : List PV} (r : SRel K B H0 F0 F ad σp σ H) (hi : σp[i]? = some (.own xs)) (hx : Reps K F vs ys) :
    SRel K B H0 F0 F ad (σp.set i (.own ys)) σ (upd H (ad i) (.lst vs)) := r.changeW (d := false) hi ⟨vs, rfl, hx⟩
theorem SRel.app : ∀ {ws : List (Nat × V)} {us : List (Nat × PV)} {σp : Fm} {σ : L2.St}, URel K F ws us → SRel K B H0 F0 F ad σp σ H → SRel K B H0 F0 F ad (appF us σp) (appV ws σ) H
  | _, _, _, _, .nil, h => h
  | p :: ws, q :: us, σp, σ, .cons a r, h => by
    unfold appF appV
    rw [a.1]
    exact SRel.app r (h.setVal a.2)
/-- behind an expression: its value, or the list of one's own that it has made, is laid into a slot -/
theorem SRel.store {i : Nat} {v : V} {x : PV} {o : Bool} (r0 : SRel K B H0 F0 F ad σp σ H) (hown : ∀ (i : Nat) (d : Bool) xs, σp'[i]? = some (.ow d xs) → σp[i]? = some (.ow d xs)) (r : SRel K B H0 F0 F' ad σp' σ H') (res : Res K H F' H' v x o) :
    ∃ ad', SRel K B H0 F0 F' ad' (σp'.set i (slotOf x o)) (σ.set i (some v)) H' := by
  cases o with
  | false =>
    unfold Res at res
    rw [if_neg Bool.false_ne_true] at res
    exact ⟨ad, r.setVal res⟩
  | true =>
    unfold Res at res
    rw [if_pos rfl] at res
    obtain ⟨p, vs, xs, rfl, rfl, h1, h2, h3, rr⟩ := res
    refine ⟨_, r.setOwn (r0.g.h.free h1) h2 h3 rr fun j d ys hj => ?_⟩
    rintro rfl
    obtain ⟨_, _, _, us, b4, _⟩ := r0.own j d ys (hown j d ys hj)
    rw [h1] at b4
    cases b4
end

section
variable {c : Cc} {sc : Scope}
/-- blocks -/
theorem sss_of {f : Fm → Stmt → Option Fl} : ∀ {l : List Stmt}, (∀ s ∈ l, SS c sc s fun σ => f σ s) → SSs c sc l fun σ => exL f l σ
  | [], _ => ⟨tNext, fun _ _ => pss_nil, fun σp fl h H0 F0 F ad σ H D r k => by
      simp only [exL] at h
      cases h
      exact k F ad σ H r⟩
  | [s], h => by
    obtain ⟨t, a, b⟩ := h s (List.mem_cons_self ..)
    exact ⟨t, fun X x => pss_one (a X x), fun σp fl e => b σp fl (by simp only [exL] at e; exact e)⟩
  | s :: s' :: l, h => by
    obtain ⟨t, a, b⟩ := h s (List.mem_cons_self ..)
    obtain ⟨u, a2, b2⟩ := sss_of (f := f) (l := s' :: l) fun x hx => h x (List.mem_cons_of_mem _ hx)
    refine ⟨tSeq t u, fun X x => pss_cons (a X x) (a2 X x), fun σp fl e H0 F0 F ad σ H D r k => ?_⟩
    simp only [exL] at e
    obtain ⟨g, e1, e2⟩ := Option.bind_eq_some_iff.mp e
    show t { D with nx := u D } σ H
    refine b σp g e1 H0 F0 F ad σ H _ r ?_
    cases g with
    | nx σ1 => exact fun F1 ad1 σ2 H1 r1 => b2 σ1 fl e2 H0 F0 F1 ad1 σ2 H1 D r1 k
    | bk σ1 => simp only [thenF] at e2; cases e2; exact k
    | ct σ1 => simp only [thenF] at e2; cases e2; exact k
    | rt x o => simp only [thenF] at e2; cases e2; exact k
theorem ss_ret {e : PySem.Expr} {pos : Pos} {g : Fm → Option (PV × Bool × Fm)} {t : TE} (h1 : ∀ X, SOk c sc X → PE X e t) (h2 : ∀ σp x o σp', g σp = some (x, o, σp') → EvF c t σp x o σp') : SS c sc (.Return (some e) pos) fun σ => (g σ).bind fun p => some (.rt p.1 p.2.1) := by
  refine ⟨tRet t, fun X x => ps_ret (h1 X x), fun σp fl q H0 F0 F ad σ H D r k => ?_⟩
  obtain ⟨⟨x, o, σp'⟩, e1, q⟩ := Option.bind_eq_some_iff.mp q
  cases q
  exact (h2 σp x o σp' e1).2 H0 F0 F ad σ H r _ fun v F' H' r' s res => k F' H' v r'.g (res.mono r.g.h)
theorem storeN_of {x : Str} {s : Slot} {σ σ' : Fm} (h : storeN c.N sc x s σ = some σ') : ∃ i, idx c.N x = some i ∧ locB sc x = true ∧ σ' = σ.set i s := by
  unfold storeN at h
  obtain ⟨i, e1, h⟩ := Option.bind_eq_some_iff.mp h
  split at h
  · cases h
    exact ⟨i, e1, by assumption, rfl⟩
  · cases h
theorem swaps_no {e : PySem.Expr} (h : isComp e = false) (tg : Option PySem.Expr) (line : Nat) (env : Env) : swapsWith e tg line env = pure false := by
  cases e <;> first | rfl | (simp [isComp] at h)
theorem ss_set (m : Bool) {x : Str} {px : Pos} {e : PySem.Expr} {pos : Pos} {g : Fm → Option (PV × Bool × Fm)} {t : TE} (nd : c.N.Nodup) (h1 : ∀ X, SOk c sc X → PE X e t) (h2 : ∀ σp x o σp', g σp = some (x, o, σp') → EvF c t σp x o σp')
    (h3 : ∀ X, SOk c sc X → ∀ i, idx c.N x = some i → locB sc x = true → PS X (.Assign [.Name x px] e pos) (tAsg t (gName i))) :
    SS c sc (.Assign [.Name x px] e pos) fun σ => (g σ).bind fun p => (storeN c.N sc x (slotOf p.1 (m && p.2.1)) p.2.2).map .nx := by
  by_cases hn : ∃ i, idx c.N x = some i ∧ locB sc x = true
  · obtain ⟨i, hi, hl⟩ := hn
    refine ⟨tAsg t (gName i), fun X ok => ?_, fun σp fl q H0 F0 F ad σ H D r k => ?_⟩
    · exact h3 X ok i hi hl
    · obtain ⟨⟨y, o, σp'⟩, e1, q⟩ := Option.bind_eq_some_iff.mp q
      obtain ⟨σ2, e2, rfl⟩ := Option.map_eq_some_iff.mp q
      obtain ⟨i', b1, b2, rfl⟩ := storeN_of e2
      rw [hi] at b1
      cases b1
      have ev := h2 σp y o σp' e1
      cases m with
      | true =>
        refine ev.2 H0 F0 F ad σ H r _ fun v F' H' r' s res => ?_
        obtain ⟨ad', r2⟩ := SRel.store (i := i) r ev.1 r' res
        exact k F' ad' _ H' r2
      | false => exact ev.s H0 F0 F ad σ H r _ fun v F' H' r' s rx => k F' ad _ H' (r'.setVal rx)
  · refine ⟨tNever, fun _ _ => ps_never, fun σp fl q => ?_⟩
    obtain ⟨⟨y, o, σp'⟩, e1, q⟩ := Option.bind_eq_some_iff.mp q
    obtain ⟨σ2, e2, rfl⟩ := Option.map_eq_some_iff.mp q
    obtain ⟨i', b1, b2, _⟩ := storeN_of e2
    exact absurd ⟨i', b1, b2⟩ hn
theorem ss_tup {ts : List PySem.Expr} {kt : Nat} {pt pos : Pos} {e : PySem.Expr} {g : Fm → Option (PV × Bool × Fm)} {t : TE} (nd : c.N.Nodup) (h1 : ∀ X, SOk c sc X → PE X e t) (h2 : ∀ σp x o σp', g σp = some (x, o, σp') → EvF c t σp x o σp')
    (hc : isComp e = false) (ht : isTup e = false) : SS c sc (.Assign [.Tuple ts kt pt] e pos) fun σ => (g σ).bind fun p => (updT c.N sc (fun _ => true) (.Tuple ts kt pt) p.1).map fun us => .nx (appF us p.2.2) := by
  obtain ⟨gt, g1, g2⟩ := sg (c := c) (sc := sc) (asg := fun _ => true) nd (.Tuple ts kt pt)
  refine ⟨tAsg t gt, fun X ok => ?_, fun σp fl q H0 F0 F ad σ H D r k => ?_⟩
  · refine ps_asg (h1 X ok) (g1 X ok.cx) (swaps_no hc (some (.Tuple ts kt pt)) pos.line X.env) ?_ rfl
    cases e <;> first | rfl | (simp [isTup] at ht)
  · obtain ⟨⟨y, o, σp'⟩, e1, q⟩ := Option.bind_eq_some_iff.mp q
    obtain ⟨us, e2, rfl⟩ := Option.map_eq_some_iff.mp q
    have ev := h2 σp y o σp' e1
    refine ev.s H0 F0 F ad σ H r _ fun v F' H' r' s rx => ?_
    exact g2 y us e2 F' H' v σ D.nx r'.g.in_ rx fun ws hw => k F' ad _ H' (r'.app hw)
theorem kind_ok {X : Cx} (ok : SOk c sc X) : X.env.blockKind = .function := by
  unfold Env.blockKind
  rw [ok.cx.sc, ok.kind]
  rfl
theorem ss_par {ts : List PySem.Expr} {kt k2 : Nat} {pt pt2 pos : Pos} {a b : PySem.Expr} {x y : Str} {ga gb : Fm → Option (PV × Bool × Fm)} {ta tb : TE} (nd : c.N.Nodup) (hp : parB sc ts [a, b] = some (x, y)) (ha : ∀ X, SOk c sc X → PE X a ta) (hb : ∀ X, SOk c sc X → PE X b tb)
    (ea : ∀ σp x o σp', ga σp = some (x, o, σp') → EvF c ta σp x o σp') (eb : ∀ σp x o σp', gb σp = some (x, o, σp') → EvF c tb σp x o σp') :
    SS c sc (.Assign [.Tuple ts kt pt] (.Tuple [a, b] k2 pt2) pos) fun σ => (ga σ).bind fun p => (gb p.2.2).bind fun q => (storeN c.N sc x (.val p.1) q.2.2).bind fun σ1 => (storeN c.N sc y (.val q.1) σ1).map .nx := by
  unfold parB at hp
  split at hp
  · rename_i a' b' x' px y' py a1 b1 he1
    split at hp
    · rename_i hc
      cases hp
      cases he1
      simp only [Bool.and_eq_true, decide_eq_true_eq, Bool.not_eq_true'] at hc
      obtain ⟨⟨⟨⟨⟨⟨lx, ly⟩, hline⟩, hne⟩, hst⟩, hf⟩, hk⟩ := hc
      have hne' : ¬ x = y := by simpa using hne
      have hs := starB_no hst
      by_cases hn : (∃ i, idx c.N x = some i) ∧ ∃ j, idx c.N y = some j
      · obtain ⟨⟨i, hi⟩, ⟨j, hj⟩⟩ := hn
        have hij : i ≠ j := fun z => hne' (by have h1 := idx_get hi; have h2 := idx_get hj; rw [z, h2] at h1; exact (Option.some.inj h1).symm)
        refine ⟨tPar i j (tCons ta (tCons tb tNil)), fun X ok => ?_, fun σp fl q H0 F0 F ad σ H D r k => ?_⟩
        · have kx : X.env.kindOf x = some .local := by show X.env.scope.names.lookup x = _; rw [ok.cx.sc]; exact lx
          have ky : X.env.kindOf y = some .local := by show X.env.scope.names.lookup y = _; rw [ok.cx.sc]; exact ly
          refine ps_par ok.cx.calm (by rw [ok.cx.N]; exact nd) (by rw [ok.cx.N]; exact idx_get hi) (by rw [ok.cx.N]; exact idx_get hj) hij (by rw [ok.cx.sc]; exact lx) (by rw [ok.cx.sc]; exact ly) (pa_cons (ha X ok) (pa_cons (hb X ok) pa_nil (star_of (hs b (by simp)))) (star_of (hs a (by simp)))) ?_ rfl
          exact swapped_two (kind_ok ok) kx ky (by simpa using hline) hne' hs hf hk
        · obtain ⟨⟨xa, oa, σ1⟩, e1, q⟩ := Option.bind_eq_some_iff.mp q
          obtain ⟨⟨xb, ob, σ2⟩, e2, q⟩ := Option.bind_eq_some_iff.mp q
          obtain ⟨σ3, e3, q⟩ := Option.bind_eq_some_iff.mp q
          obtain ⟨σ4, e4, rfl⟩ := Option.map_eq_some_iff.mp q
          obtain ⟨i', b1, _, rfl⟩ := storeN_of e3
          obtain ⟨j', b2, _, rfl⟩ := storeN_of e4
          rw [hi] at b1; cases b1
          rw [hj] at b2; cases b2
          refine (ea σp xa oa σ1 e1).s H0 F0 F ad σ H r _ fun v F1 H1 r1 s1 rx => ?_
          refine (eb σ1 xb ob σ2 e2).s H0 F1 F1 ad σ H1 r1.rebase _ fun w F2 H2 r2 s2 ry => ?_
          exact ⟨v, w, rfl, k F2 ad _ H2 (((r1.join r2).setVal (rx.mono r2.g.f)).setVal ry)⟩
      · refine ⟨tNever, fun _ _ => ps_never, fun σp fl q => ?_⟩
        obtain ⟨_, _, q⟩ := Option.bind_eq_some_iff.mp q
        obtain ⟨_, _, q⟩ := Option.bind_eq_some_iff.mp q
        obtain ⟨σ3, e3, q⟩ := Option.bind_eq_some_iff.mp q
        obtain ⟨σ4, e4, rfl⟩ := Option.map_eq_some_iff.mp q
        obtain ⟨i', b1, _, _⟩ := storeN_of e3
        obtain ⟨j', b2, _, _⟩ := storeN_of e4
        exact absurd ⟨⟨_, b1⟩, ⟨_, b2⟩⟩ hn
    · cases hp
  · cases hp

/-! ### a list of one's own: append, pop, an item -/
theorem own_ty {K : PySem.W.Frag} {H0 F0 F H : Hp} {ad : Nat → Addr} {σp : Fm} {σ : L2.St} {i : Nat} {xs : List PV} (r : SRel K B H0 F0 F ad σp σ H) (h : σp[i]? = some (.own xs)) : tyV K "list" (.ref (ad i)) H := by
  obtain ⟨_, _, _, vs, h4, _⟩ := r.ownL i xs h
  exact .inl ⟨rfl, vs, .inl (.inl h4)⟩
theorem ss_append {x : Str} {px pa pos epos : Pos} {a : PySem.Expr} {i : Nat} {g : Fm → Option (PV × Bool × Fm)} {t : TE} (hi : idx c.N x = some i) (h0 : okNm x = true) (hv : visB sc x = true) (hs : starB [a] = false) (hln : (pa.endLine == pos.line) = true) (h1 : ∀ X, SOk c sc X → PE X a t) (h2 : ∀ σp x o σp', g σp = some (x, o, σp') → EvF c t σp x o σp') :
    SS c sc (.Expr (.Call (.Attribute (.Name x px) "append" pa) [a] [] pos) epos) fun σ => (match σ[i]? with
        | some (.ow false _) => (g σ).bind fun p => (match p.2.2[i]? with
              | some (.ow false xs) => if xs.length < big then some (.nx (p.2.2.set i (.own (xs ++ [p.1])))) else none
              | _ => none)
        | _ => none) := by
  obtain ⟨d1, d2⟩ := okNm_d h0
  refine ⟨tDrop (tBM c.K "list" rAppend (tVar i) (tCons t tNil)), fun X ok => ?_, fun σp fl q H0 F0 F ad σ H D r k => ?_⟩
  · refine ps_expr ?_ (by rfl)
    rw [← ok.cx.K]
    exact pe_bm PySem.F.plainAttrs_list PySem.F.slot_list_append PySem.F.type_list_append mt_append (pe_var (by rw [ok.cx.N]; exact idx_get hi) (by rw [ok.cx.sc]; exact vis_of hv) d1 d2)
      (pa_cons (h1 X ok) pa_nil (star_of (starB_no hs a (List.mem_cons_self ..)))) rfl (by rw [star_of (starB_no hs a (List.mem_cons_self ..))]; rfl) hln (star_of (starB_no hs a (List.mem_cons_self ..))) rfl
  · dsimp only at q
    split at q
    · rename_i ys hy
      obtain ⟨⟨y, o, σp'⟩, e1, q⟩ := Option.bind_eq_some_iff.mp q
      simp only at q
      split at q
      · rename_i xs hx
        split at q
        · rename_i hl
          cases q
          have ev := h2 σp y o σp' e1
          refine ⟨_, (r.ownL i ys hy).1, own_ty r hy, ?_⟩
          refine ev.s H0 F0 F ad σ H r _ fun v F' H' r' s rx => ?_
          obtain ⟨_, _, _, vs, b4, b5⟩ := r'.ownL i xs hx
          refine ⟨ad i, vs, v, rfl, rfl, b4, ?_, ?_⟩
          · rw [b5.length]
            exact Nat.lt_of_lt_of_le hl big_line
          · exact k F' ad σ _ (r'.change hx (b5.append (.cons rx .nil)))
        · cases q
      · cases q
    · cases q
theorem ss_pop {x : Str} {px pa pos epos : Pos} {i : Nat} (hi : idx c.N x = some i) (h0 : okNm x = true) (hv : visB sc x = true) (hln : (pa.endLine == pos.line) = true) :
    SS c sc (.Expr (.Call (.Attribute (.Name x px) "pop" pa) [] [] pos) epos) fun σ => (match σ[i]? with
        | some (.ow false xs) => if xs.isEmpty then none else some (.nx (σ.set i (.own xs.dropLast)))
        | _ => none) := by
  obtain ⟨d1, d2⟩ := okNm_d h0
  refine ⟨tDrop (tBM0 c.K "list" rPop (tVar i)), fun X ok => ?_, fun σp fl q H0 F0 F ad σ H D r k => ?_⟩
  · refine ps_expr ?_ (by rfl)
    rw [← ok.cx.K]
    exact pe_bm0 PySem.F.plainAttrs_list PySem.F.slot_list_pop PySem.F.type_list_pop mt_pop (pe_var (by rw [ok.cx.N]; exact idx_get hi) (by rw [ok.cx.sc]; exact vis_of hv) d1 d2) rfl hln
  · dsimp only at q
    split at q
    · rename_i xs hx
      split at q
      · cases q
      · rename_i hne
        cases q
        obtain ⟨b1, _, _, vs, b4, b5⟩ := r.ownL i xs hx
        refine ⟨_, b1, own_ty r hx, ?_⟩
        have hvs : vs ≠ [] := fun e => by subst e; cases b5; exact hne rfl
        have hl : vs.length - 1 < vs.length := by have := List.length_pos_iff.mpr hvs; omega
        exact ⟨ad i, vs, vs[vs.length - 1], rfl, rfl, b4, List.getElem?_eq_getElem hl, k F ad σ _ (r.change hx b5.dropLast)⟩
    · cases q
def rSetA (K : PySem.W.Frag) : TSet := fun o i v H Q => rSetL o i v H Q ∨ rSetN K o i v H Q
theorem set_all {X : Cx} (hu : X.A.units + 64 < cLine) : PSet X (rSetA X.K) := by
  intro pins s σ H o i v ov iv u Q I ro ri rv h
  rcases h with h | h
  · exact set_list pins s σ H o i v ov iv u Q I ro ri rv h
  · exact set_dn hu pins s σ H o i v ov iv u Q I ro ri rv h
theorem ss_item {x : Str} {px ps pos : Pos} {ie e : PySem.Expr} {i : Nat} {g gi : Fm → Option (PV × Bool × Fm)} {t ti : TE} (hi : idx c.N x = some i) (h0 : okNm x = true) (hv : visB sc x = true) (hc : isComp e = false) (hsl : isSl ie = false) (h1 : ∀ X, SOk c sc X → PE X e t) (h2 : ∀ σp x o σp', g σp = some (x, o, σp') → EvF c t σp x o σp')
    (h3 : ∀ X, SOk c sc X → PE X ie ti) (h4 : ∀ σp x o σp', gi σp = some (x, o, σp') → EvF c ti σp x o σp') :
    SS c sc (.Assign [.Subscript (.Name x px) ie ps] e pos) fun σ => (g σ).bind fun p => (match p.2.2[i]? with
        | some (.ow false _) => (gi p.2.2).bind fun q => (match q.2.2[i]?, q.1 with
          | some (.ow false xs), .int k => (ixN xs.length k).map fun j => .nx (q.2.2.set i (.own (xs.set j p.1)))
          | _, _ => none)
        | some (.ow true _) => (gi p.2.2).bind fun q => (match q.2.2[i]? with
          | some (.ow true xs) => (dSet xs q.1 p.1).map fun ys => .nx (q.2.2.set i (.dct ys))
          | _ => none)
        | _ => none) := by
  obtain ⟨d1, d2⟩ := okNm_d h0
  refine ⟨tAsg t (gSub (tVar i) ti (rSetA c.K)), fun X ok => ?_, fun σp fl q H0 F0 F ad σ H D r k => ?_⟩
  · exact ps_asg (h1 X ok) (pg_sub (pe_var (by rw [ok.cx.N]; exact idx_get hi) (by rw [ok.cx.sc]; exact vis_of hv) d1 d2) (h3 X ok) (by rw [← ok.cx.K]; exact set_all (units_of ok.cx)) (by intro _; cases ie <;> first | rfl | (simp [isSl] at hsl))) (swaps_no hc (some (.Subscript (.Name x px) ie ps)) pos.line X.env) (by cases e <;> rfl) rfl
  · obtain ⟨⟨y, o, σp'⟩, e1, q⟩ := Option.bind_eq_some_iff.mp q
    simp only at q
    split at q
    · rename_i ys hy
      obtain ⟨⟨z, o2, σp2⟩, e2, q⟩ := Option.bind_eq_some_iff.mp q
      simp only at q
      split at q
      · rename_i xs n hx
        obtain ⟨j, e3, rfl⟩ := Option.map_eq_some_iff.mp q
        refine (h2 σp y o σp' e1).s H0 F0 F ad σ H r _ fun v F1 H1 r1 s1 rx => ?_
        refine ⟨_, (r1.ownL i ys hy).1, ?_⟩
        refine (h4 σp' _ o2 σp2 e2).s H0 F1 F1 ad σ H1 r1.rebase _ fun w F2 H2 r2 s2 ry => ?_
        cases ry
        obtain ⟨_, _, _, vs, b4, b5⟩ := r2.ownL i xs hx
        exact .inl ⟨ad i, vs, n, j, rfl, rfl, b4, by rw [b5.length]; exact e3, k F2 ad σ _ ((r1.join r2).change hx (b5.set (rx.mono r2.g.f) j))⟩
      · cases q
    · rename_i ys hy
      obtain ⟨⟨z, o2, σp2⟩, e2, q⟩ := Option.bind_eq_some_iff.mp q
      simp only at q
      split at q
      · rename_i xs hx
        obtain ⟨zs, e3, rfl⟩ := Option.map_eq_some_iff.mp q
        unfold dSet at e3
        obtain ⟨kk, e4, e3⟩ := Option.bind_eq_some_iff.mp e3
        split at e3
        · rename_i hlen
          cases e3
          refine (h2 σp y o σp' e1).s H0 F0 F ad σ H r _ fun v F1 H1 r1 s1 rx => ?_
          refine ⟨_, (r1.ownD i ys hy).1, ?_⟩
          refine (h4 σp' _ o2 σp2 e2).s H0 F1 F1 ad σ H1 r1.rebase _ fun w F2 H2 r2 s2 ry => ?_
          obtain ⟨_, _, _, es, b4, b5⟩ := r2.ownD i xs hx
          obtain ⟨k1, k2, b', rfl⟩ := keyT_ok r2.g.in_ e4 ry
          refine .inr ⟨ad i, es, b', kk, rfl, b4, b5.keys r2.g.in_, rfl, k1, k2, ?_, fun u hu => k F2 ad σ _ ((r1.join r2).changeW (d := true) hx ⟨_, rfl, b5.put e4 ry hu (rx.mono r2.g.f)⟩)⟩
          have := b5.length
          have := big_line
          omega
        · cases e3
      · cases q
    · cases q

/-- a new dict of one's own -/
theorem ss_new {x : Str} {px pos dp : Pos} (nd : c.N.Nodup) : SS c sc (.Assign [.Name x px] (.Dict [] [] dp) pos) fun σ => (storeN c.N sc x (.dct []) σ).map .nx := by
  by_cases hn : ∃ i, idx c.N x = some i ∧ locB sc x = true
  · obtain ⟨i, hi, hl⟩ := hn
    refine ⟨tAsg tDNewN (gName i), fun X ok => ps_set (by rw [ok.cx.N]; exact nd) (by rw [ok.cx.N]; exact idx_get hi) (by rw [ok.cx.sc]; exact loc_of hl) pe_dnewN (swaps_no (by rfl) _ _ _) (ok.cx.as x rfl), fun σp fl q H0 F0 F ad σ H D r k => ?_⟩
    obtain ⟨σ2, e2, rfl⟩ := Option.map_eq_some_iff.mp q
    obtain ⟨i', b1, b2, rfl⟩ := storeN_of e2
    rw [hi] at b1
    cases b1
    intro p hp
    have hF := r.g.in_.free hp
    have r1 := r.grow (Grow.own (o := .ext (DN p [])) r.g.in_ hp)
    exact k F _ _ _ (r1.setOw (d := true) (r.g.h.free hp) hF upd_same ⟨[], rfl, .nil⟩ fun j d' ys hj => by
      rintro rfl
      obtain ⟨_, _, _, us, b4, _⟩ := r.own j d' ys hj
      rw [hp] at b4
      cases b4)
  · refine ⟨tNever, fun _ _ => ps_never, fun σp fl q => ?_⟩
    obtain ⟨σ2, e2, rfl⟩ := Option.map_eq_some_iff.mp q
    obtain ⟨i', b1, b2, _⟩ := storeN_of e2
    exact absurd ⟨i', b1, b2⟩ hn
/-! ### if, while, for -/
theorem tst_ok {e : PySem.Expr} {f : Sl → PySem.Expr → Option Bool} {t : TT} (h : ∀ σp b, f σp e = some b → EvT c.K c.B t σp b) {σp : Fm} {b : Bool} (q : evTst f σp e = some b) :
    ∀ H0 F0 F ad σ H, SRel c.K c.B H0 F0 F ad σp σ H → ∀ Q : Bool → Hp → Prop, (∀ F' H', SRel c.K c.B H0 F0 F' ad σp σ H' → Q b H') → t σ H Q := by
  intro H0 F0 F ad σ H r Q k
  unfold evTst at q
  obtain ⟨o1, o2⟩ := r.opens fun _ => true
  refine h _ _ q _ H σ o2 r.thaw Q fun FB H' g => ?_
  obtain ⟨F', g', _⟩ := r.back g
  exact k F' H' (r.grow g')
theorem ss_if {cl : List (Nat × Bool)} {e : PySem.Expr} {a b : List Stmt} {pos : Pos} {f : Sl → PySem.Expr → Option Bool} {t : TT} {ga gb : Fm → Option Fl} (h1 : ∀ X, SOk c sc X → PT X e t) (h2 : ∀ σp b, f σp e = some b → EvT c.K c.B t σp b) (ha : SSs c sc a ga) (hb : SSs c sc b gb) :
    SS c sc (.If e a b pos) fun σ => (evTst f σ e).bind fun k => (if k then ga σ else gb σ).map (clrF cl) := by
  obtain ⟨ta, a1, a2⟩ := ha
  obtain ⟨tb, b1, b2⟩ := hb
  refine ⟨tIfS t ta tb, fun X ok => ps_if (h1 X ok) (a1 X ok) (b1 X ok), fun σp fl q H0 F0 F ad σ H D r k => ?_⟩
  obtain ⟨v, e1, q⟩ := Option.bind_eq_some_iff.mp q
  obtain ⟨fl', e2, rfl⟩ := Option.map_eq_some_iff.mp q
  have k : FlowOk c.K c.B H0 F0 fl' D := by
    cases fl' with
    | nx σ' => exact fun F ad σ H r => let ⟨F', r'⟩ := r.clr cl; k F' ad σ H r'
    | _ => exact k
  refine tst_ok h2 e1 H0 F0 F ad σ H r _ fun F' H' r' => ?_
  cases v with
  | true =>
    rw [if_pos rfl] at e2 ⊢
    exact a2 σp fl' e2 H0 F0 F' ad σ H' D r' k
  | false =>
    rw [if_neg Bool.false_ne_true] at e2 ⊢
    exact b2 σp fl' e2 H0 F0 F' ad σ H' D r' k
theorem never_of {X : Cx} (ok : SOk c sc X) : PassesOwn (model X.prog X.w) X.A X.env X.xe := ok.xe
/-- a turn's end -/
theorem loop_end {K : PySem.W.Frag} {B : List Addr} {H0 F0 : Hp} {cl : List (Nat × Bool)} {g : Fl} {kf : Fm → Option Fl} {fl : Fl} {D : Ends} {N : L2.St → Hp → Prop} (h : loopF (clr cl) g kf = some fl) (k : FlowOk K B H0 F0 fl D) (hn : ∀ σ1, kf σ1 = some fl → ∀ F ad σ H, SRel K B H0 F0 F ad σ1 σ H → N σ H) :
    FlowOk K B H0 F0 g { D with nx := N, ct := N, bk := D.nx } := by
  cases g with
  | nx σ1 => exact fun F ad σ H r => let ⟨F', r'⟩ := r.clr cl; hn _ h F' ad σ H r'
  | ct σ1 => exact fun F ad σ H r => let ⟨F', r'⟩ := r.clr cl; hn _ h F' ad σ H r'
  | bk σ1 => simp only [loopF] at h; cases h; exact fun F ad σ H r => let ⟨F', r'⟩ := r.clr cl; k F' ad σ H r'
  | rt x o => simp only [loopF] at h; cases h; exact k
theorem ss_while {cl : List (Nat × Bool)} {e : PySem.Expr} {a : List Stmt} {pos : Pos} {f : Sl → PySem.Expr → Option Bool} {t : TT} {ga : Fm → Option Fl} {W : Nat} (h1 : ∀ X, SOk c sc X → PT X e t) (h2 : ∀ σp b, f σp e = some b → EvT c.K c.B t σp b) (ha : SSs c sc a ga) :
    SS c sc (.While e a [] pos) fun σ => whL (clr cl) (fun σ => evTst f σ e) ga W (clr cl σ) := by
  obtain ⟨ta, a1, a2⟩ := ha
  refine ⟨tWhile t ta, fun X ok => ps_while (never_of ok) (h1 X ok) (a1 X ok), fun σp fl q H0 F0 F ad σ H D r k => ?_⟩
  obtain ⟨F', r⟩ := r.clr cl
  refine ⟨fun m σ H => ∃ σp F ad, SRel c.K c.B H0 F0 F ad σp σ H ∧ whL (clr cl) (fun σ => evTst f σ e) ga m σp = some fl, ⟨W, _, F', ad, r, q⟩, ?_⟩
  rintro m σ1 H1 ⟨σp1, F1, ad1, r1, q1⟩
  cases m with
  | zero => simp only [whL] at q1; cases q1
  | succ m =>
    simp only [whL] at q1
    obtain ⟨b, e1, q1⟩ := Option.bind_eq_some_iff.mp q1
    refine tst_ok h2 e1 H0 F0 F1 ad1 σ1 H1 r1 _ fun F' H' r' => ?_
    cases b with
    | true =>
      rw [if_pos rfl] at q1 ⊢
      obtain ⟨g, e2, q2⟩ := Option.bind_eq_some_iff.mp q1
      refine ⟨fun σ H => ∃ σp F ad, SRel c.K c.B H0 F0 F ad σp σ H ∧ whL (clr cl) (fun σ => evTst f σ e) ga m σp = some fl, fun σ' H' h => ⟨m, Nat.lt_succ_self m, h⟩, ?_⟩
      exact a2 σp1 g e2 H0 F0 F' ad1 σ1 H' _ r' (loop_end q2 k fun σ2 e3 F ad σ H r => ⟨σ2, F, ad, r, e3⟩)
    | false =>
      rw [if_neg Bool.false_ne_true] at q1 ⊢
      cases q1
      exact k F' ad1 σ1 H' r'
theorem itr_ok {e : PySem.Expr} {f : Sl → PySem.Expr → Option (List PV)} {wi : TI} (h : ∀ σp xs, f σp e = some xs → EvI c.K c.B wi σp xs) {σp σp' : Fm} {xs : List PV} (q : evItr c.N f σp e = some (xs, σp')) :
    ∀ H0 F0 F ad σ H, SRel c.K c.B H0 F0 F ad σp σ H → ∀ R : It → Hp → Prop, (∀ J vs F' H', SRel c.K c.B H0 F0 F' ad σp' σ H' → Reps c.K F' vs xs → ItOk J F' vs → R J H') → wi σ H R := by
  intro H0 F0 F ad σ H r R k
  unfold evItr at q
  split at q
  · obtain ⟨ys, e1, q⟩ := Option.bind_eq_some_iff.mp q
    cases q
    have r2 := r.freeze (fun i => match c.N[i]? with | some x => (occ 30 e).any (· == x) | none => false)
    exact h _ _ e1 _ H σ r2.g.in_ r2.vis R fun J vs F' H' g rs it => k J vs F' H' (r2.grow g) rs it
  · obtain ⟨ys, e1, q⟩ := Option.bind_eq_some_iff.mp q
    cases q
    exact h _ _ e1 F H σ r.g.in_ r.vis R fun J vs F' H' g rs it => k J vs F' H' (r.grow g) rs it
theorem ss_for {cl : List (Nat × Bool)} {tg it : PySem.Expr} {a : List Stmt} {pos : Pos} {f : Sl → PySem.Expr → Option (List PV)} {wi : TI} {ga : Fm → Option Fl} (nd : c.N.Nodup) (hf : ∀ env x, foldedSetIterable it env x = pure x) (h1 : ∀ X, SOk c sc X → PI X tg it wi) (h2 : ∀ σp xs, f σp it = some xs → EvI c.K c.B wi σp xs) (ha : SSs c sc a ga) :
    SS c sc (.For tg it a [] pos) fun σ => (evItr c.N f σ it).bind fun p => forL (clr cl) (fun x σ => (updT c.N sc (fun _ => true) tg x).map fun us => appF us σ) ga p.1 (clr cl p.2) := by
  obtain ⟨ta, a1, a2⟩ := ha
  obtain ⟨gt, g1, g2⟩ := sg (c := c) (sc := sc) (asg := fun _ => true) nd tg
  refine ⟨tFor wi gt ta, fun X ok => ps_for (never_of ok) ok.cx.calm (h1 X ok) (g1 X ok.cx) (a1 X ok) (hf _), fun σp fl q H0 F0 F ad σ H D r k => ?_⟩
  obtain ⟨⟨items, σp1⟩, e1, q⟩ := Option.bind_eq_some_iff.mp q
  simp only at q
  generalize hb : (fun x σ => (updT c.N sc (fun _ => true) tg x).map fun us => appF us σ : PV → Fm → Option Fm) = bf at q
  refine itr_ok h2 e1 H0 F0 F ad σ H r _ fun J vs F1 H1 r1 rs it => ?_
  obtain ⟨F1', r1'⟩ := r1.rebase.clr cl
  refine ⟨fun i m σ H => m = vs.length - i ∧ i ≤ vs.length ∧ ∃ σp F ad, SRel c.K c.B H0 F1 F ad σp σ H ∧ forL (clr cl) bf ga (items.drop i) σp = some fl, ⟨vs.length, by simp, Nat.zero_le _, _, F1', ad, r1', q⟩, ?_⟩
  rintro i m σ2 H2 ⟨rfl, hi, σp2, F2, ad2, r2, q2⟩
  obtain ⟨it1, it2⟩ := it H2 i (r2.g.f.trans r2.g.in_)
  by_cases hlt : i < vs.length
  · refine .inr ⟨(it1 hlt).1, fun σ H => i + 1 ≤ vs.length ∧ ∃ σp F ad, SRel c.K c.B H0 F1 F ad σp σ H ∧ forL (clr cl) bf ga (items.drop (i + 1)) σp = some fl, fun σ' H' h => ⟨vs.length - (i + 1), by omega, rfl, h.1, h.2⟩, fun x H' hy => ?_⟩
    obtain ⟨rfl, hx⟩ := (it1 hlt).2 x H' hy
    obtain ⟨xi, hxi, rx⟩ := rs.getV hx
    have hd : items.drop i = xi :: items.drop (i + 1) := by
      obtain ⟨hl, e⟩ := List.getElem?_eq_some_iff.mp hxi
      rw [List.drop_eq_getElem_cons hl, e]
    rw [hd] at q2
    simp only [forL] at q2
    obtain ⟨σp3, e3, q3⟩ := Option.bind_eq_some_iff.mp q2
    obtain ⟨g, e4, q4⟩ := Option.bind_eq_some_iff.mp q3
    have e3' := e3
    rw [← hb] at e3'
    obtain ⟨us, e5, rfl⟩ := Option.map_eq_some_iff.mp e3'
    refine g2 xi us e5 F2 H' x σ2 _ r2.g.in_ (rx.mono r2.g.f) fun ws hw => ?_
    refine a2 _ g e4 H0 F1 F2 ad2 _ H' _ (r2.app hw) ?_
    refine loop_end (D := D) q4 ?_ fun σp4 e6 F ad σ H r => ⟨hlt, σp4, F, ad, r, e6⟩
    -- the wish for the whole, from the loop's own base
    cases fl with
    | nx σf => exact fun F ad σ H r => k F ad σ H (r1.join r)
    | bk σf => exact fun F ad σ H r => k F ad σ H (r1.join r)
    | ct σf => exact fun F ad σ H r => k F ad σ H (r1.join r)
    | rt y o => exact fun F H v g res => k F H v ⟨r1.g.f.trans g.f, g.h, g.in_, fun p a b => g.new p a (r1.g.new p a b)⟩ res
  · have e : i = vs.length := by omega
    subst e
    refine .inl ⟨it2 (Nat.le_refl _), ?_⟩
    have hd : items.drop vs.length = [] := by rw [rs.length]; exact List.drop_length ..
    rw [hd] at q2
    simp only [forL] at q2
    cases q2
    exact k F2 ad2 σ2 H2 (r1.join r2)
end
end Pv

/-! Part N: all statements; defs -/
namespace Pv
open PySem L2 PySem.Spec PyProof.Rows

section
variable {c : Cc} {T : Tb}
theorem top_of {M : Nat} (b0 : Bool) (ok : TabOk c T) (sc : Scope) (e : PySem.Expr) : ∃ t : TE, (∀ X, SOk c sc X → PE X e t) ∧ ∀ σp x o σp', evTop b0 c.N (evE T c.N M sc) σp e = some (x, o, σp') → EvF c t σp x o σp' := by
  obtain ⟨t, a, b⟩ := (sound ok M).e sc (fun _ => true) e
  exact ⟨t, fun X x => a X x.cx, fun σp x o σp' q => top_ok b q⟩
theorem ownT_some {r : Option (PV × Bool × Fm)} {ys : List PV} {σ : Fm} (h : ownT r = some (ys, σ)) : r = some (.lst ys, true, σ) := by
  unfold ownT at h
  split at h
  · cases h; rfl
  · cases h
theorem SS.weak {sc : Scope} {st : Stmt} {f g : Fm → Option Fl} (h : SS c sc st f) (q : ∀ σ fl, g σ = some fl → f σ = some fl) : SS c sc st g :=
  let ⟨t, a, b⟩ := h; ⟨t, a, fun σp fl e => b σp fl (q σp fl e)⟩
theorem swap_true {sc : Scope} {X : Cx} {x : Str} {px : Pos} {elt : PySem.Expr} {gens : List Comprehension} {scope : Scope} {p spos : Pos} (ok : SOk c sc X) (h : swapB sc x px (.ListComp elt gens scope p) = true) :
    X.env.scope.names.lookup x = some .local ∧ swapsWith (.ListComp elt gens scope p) (some (.Name x px)) spos.line X.env = pure true := by
  unfold swapB at h
  simp only [Bool.and_eq_true, decide_eq_true_eq, Bool.not_eq_true'] at h
  obtain ⟨⟨h1, h2⟩, h3⟩ := h
  have h1' : X.env.scope.names.lookup x = some .local := by rw [ok.cx.sc]; exact h1
  exact ⟨h1', sw_true (by rw [ok.cx.sc]; exact ok.kind) h1' h2 h3⟩
theorem sound_s {M W : Nat} (ok : TabOk c T) (sc : Scope) : ∀ n s, SS c sc s fun σ => exS T c.N M W sc n σ s
  | 0, s => SS.none.congr fun σ => by simp only [exS]
  | n + 1, s => by
    have IL : ∀ l, SSs c sc l fun σ => exL (exS T c.N M W sc n) l σ := fun l => sss_of (f := fun σ s => exS T c.N M W sc n σ s) fun s _ => sound_s ok sc n s
    cases s with
    | Pass pos => exact ⟨tNext, fun _ _ => ps_pass, fun σp fl h H0 F0 F ad σ H D r k => by simp only [exS] at h; cases h; exact k F ad σ H r⟩
    | Break pos => exact ⟨tBreak, fun _ _ => ps_break, fun σp fl h H0 F0 F ad σ H D r k => by simp only [exS] at h; cases h; exact k F ad σ H r⟩
    | Continue pos => exact ⟨tCont, fun _ _ => ps_continue, fun σp fl h H0 F0 F ad σ H D r k => by simp only [exS] at h; cases h; exact k F ad σ H r⟩
    | Return v pos =>
      cases v with
      | none => exact ⟨tRetN, fun _ _ => ps_retN, fun σp fl h H0 F0 F ad σ H D r k => by simp only [exS] at h; cases h; exact k F H .non r.g (.of .non)⟩
      | some e =>
        obtain ⟨t, a, b⟩ := top_of (M := M) (T.frz pos.line pos.col) ok sc e
        by_cases hn : ∃ x p, e = .Name x p
        · obtain ⟨x, p, rfl⟩ := hn
          by_cases h0 : (okNm x && visB sc x) = true
          · have h0' := h0
            rw [Bool.and_eq_true] at h0'
            obtain ⟨d1, d2⟩ := okNm_d h0'.1
            cases hi : idx c.N x with
            | none => exact SS.none.congr fun σ => by simp only [exS, h0, if_true, hi]
            | some i =>
              refine ⟨tRet (tVar i), fun X x => ps_ret (pe_var (by rw [x.cx.N]; exact idx_get hi) (by rw [x.cx.sc]; exact vis_of h0'.2) d1 d2), fun σp fl q H0 F0 F ad σ H D r k => ?_⟩
              simp only [exS, h0, if_true, hi] at q
              split at q
              · rename_i xs hx
                cases q
                obtain ⟨b1, b2, b3, vs, b4, b5⟩ := r.ownL i xs hx
                exact ⟨_, b1, k F H _ r.g (.mine b2 b3 b4 b5)⟩
              · rename_i v hv
                cases q
                obtain ⟨u, b1, b2⟩ := r.val i v hv
                exact ⟨u, b1, k F H u r.g (.of b2)⟩
              · cases q
          · exact (ss_ret (g := fun σ => evTop (T.frz pos.line pos.col) c.N (evE T c.N M sc) σ (.Name x p)) a b).congr fun σ => by simp only [exS, h0]; rfl
        · exact (ss_ret (g := fun σ => evTop (T.frz pos.line pos.col) c.N (evE T c.N M sc) σ e) a b).congr fun σ => by
            cases e <;> first | rfl | exact absurd ⟨_, _, rfl⟩ hn
    | Assign ts e pos =>
      obtain ⟨t, a, b⟩ := top_of (M := M) (T.frz pos.line pos.col) ok sc e
      cases ts with
      | nil => exact SS.none.congr fun σ => by rfl
      | cons tg ts =>
        cases ts with
        | cons _ _ =>
          exact SS.none.congr fun σ => by
            cases tg <;> first | rfl | (rename_i v _ _; cases v <;> rfl)
        | nil =>
          cases tg with
          | Name x px =>
            by_cases hd0 : isD0 e = true
            · have : ∃ dp, e = .Dict [] [] dp := by
                unfold isD0 at hd0
                split at hd0
                · exact ⟨_, rfl⟩
                · cases hd0
              obtain ⟨dp, rfl⟩ := this
              exact (ss_new ok.nd).congr fun σ => by simp only [exS, hd0, if_true]
            by_cases hc : (isComp e && !(isLC e)) = true
            · exact SS.none.congr fun σ => by simp only [exS, hd0, hc, if_true]; rfl
            · have plain : ∀ (t : TE), (∀ X, SOk c sc X → PE X e t) → (∀ X, SOk c sc X → swapsWith e (some (.Name x px)) pos.line X.env = pure false) → ∀ X, SOk c sc X → ∀ i, idx c.N x = some i → locB sc x = true → PS X (.Assign [.Name x px] e pos) (tAsg t (gName i)) := fun t h1 h3 X ok' i hi hl =>
                ps_set (by rw [ok'.cx.N]; exact ok.nd) (by rw [ok'.cx.N]; exact idx_get hi) (by rw [ok'.cx.sc]; exact loc_of hl) (h1 X ok') (h3 X ok') (ok'.cx.as x rfl)
              have key0 : ∀ (m : Bool) (g : Fm → Option (PV × Bool × Fm)), (∀ t : TE, (∀ σp x own, evE T c.N M sc σp e = some (x, own) → EvE c.K c.B t σp x own) → ∀ σp y o σp', g σp = some (y, o, σp') → EvF c t σp y o σp') → SS c sc (.Assign [.Name x px] e pos) fun σ => (g σ).bind fun p => (storeN c.N sc x (slotOf p.1 (m && p.2.1)) p.2.2).map .nx := fun m g gok => by
                by_cases hic : isComp e = true
                · cases e with
                  | ListComp elt gens scope p =>
                    obtain ⟨t', a', b'⟩ := sound_lcn ok M sc (fun _ => true) elt gens scope p
                    refine ss_set m (g := g) ok.nd (fun X x => (a' X x.cx).1) (gok t' b') ?_
                    by_cases hsw : swapB sc x px (.ListComp elt gens scope p) = true
                    · intro X okx i hi hl
                      obtain ⟨l1, l2⟩ := swap_true (spos := pos) okx hsw
                      exact (a' X okx.cx).2 i x px pos (by rw [okx.cx.N]; exact idx_get hi) l1 l2
                    · refine plain t' (fun X x => (a' X x.cx).1) fun X okx => ?_
                      have hk : X.env.blockKind = .function := kind_ok okx
                      have hs : X.env.scope = sc := okx.cx.sc
                      unfold swapB at hsw
                      show (pure _ : Sem Bool) = pure false
                      congr 1
                      have hz : X.env.kindOf x = sc.names.lookup x := by rw [← hs]; rfl
                      rw [hk, hz]
                      simp only [Bool.not_eq_true] at hsw
                      rw [← hsw]
                      by_cases hl : sc.names.lookup x = some .local <;> simp [hl, Expr.pos]
                  | _ => first | (simp [isComp] at hic; done) | (simp [isLC, isComp] at hc; done)
                · obtain ⟨t, a, b⟩ := (sound ok M).e sc (fun _ => true) e
                  exact ss_set m (g := g) ok.nd (fun X x => a X x.cx) (gok t b) (plain t (fun X x => a X x.cx) fun X okx => swaps_no (by simpa using hic) _ _ _)
              have key : ∀ (m b0 : Bool), SS c sc (.Assign [.Name x px] e pos) fun σ => (evTop b0 c.N (evE T c.N M sc) σ e).bind fun p => (storeN c.N sc x (slotOf p.1 (m && p.2.1)) p.2.2).map .nx := fun m b0 =>
                key0 m (fun σ => evTop b0 c.N (evE T c.N M sc) σ e) fun t b σp y o σp' q => top_ok (f := evE T c.N M sc) b q
              by_cases hf : frE T e = true
              · by_cases hz : T.frz pos.line pos.col = true
                · refine ((key0 true (fun σ => (ownL c.N (evE T c.N M sc) σ e).map fun q => (PV.lst q.1, true, q.2)) fun t b σp y o σp' q => topL_ok (f := evE T c.N M sc) b q).weak (g := fun σ => (ownL c.N (evE T c.N M sc) σ e).bind fun q => (storeN c.N sc x (.own q.1) q.2).map .nx) fun σ fl q => ?_).congr fun σ => by simp only [exS, hd0, hc, hf, hz, if_true]; rfl
                  obtain ⟨⟨ys, σ1⟩, e1, q⟩ := Option.bind_eq_some_iff.mp q
                  rw [e1]
                  exact q
                refine ((key true true).weak (g := fun σ => (ownT (evTop true c.N (evE T c.N M sc) σ e)).bind fun q => (storeN c.N sc x (.own q.1) q.2).map .nx) fun σ fl q => ?_).congr fun σ => by simp only [exS, hd0, hc, hf, hz, if_true]; rfl
                obtain ⟨⟨ys, σ1⟩, e1, q⟩ := Option.bind_eq_some_iff.mp q
                rw [ownT_some e1]
                exact q
              · refine (key false (T.frz pos.line pos.col)).congr fun σ => ?_
                simp only [exS, hd0, hc, hf, Bool.false_and]
                rfl
          | Tuple ts k pt =>
            by_cases he : ∃ vs k2 p2, e = .Tuple vs k2 p2
            · obtain ⟨vs, k2, p2, rfl⟩ := he
              cases hp : parB sc ts vs with
              | none => exact SS.none.congr fun σ => by simp only [exS, hp, Option.bind_none]
              | some xy =>
                obtain ⟨x, y⟩ := xy
                cases vs with
                | nil => exact SS.none.congr fun σ => by simp only [exS, hp, Option.bind_some]
                | cons e1 vs =>
                  cases vs with
                  | nil => exact SS.none.congr fun σ => by simp only [exS, hp, Option.bind_some]
                  | cons e2 vs =>
                    cases vs with
                    | cons _ _ => exact SS.none.congr fun σ => by simp only [exS, hp, Option.bind_some]
                    | nil =>
                      obtain ⟨t1, a1, b1⟩ := top_of (M := M) (T.frz pos.line pos.col) ok sc e1
                      obtain ⟨t2, a2, b2⟩ := top_of (M := M) (T.frz pos.line pos.col) ok sc e2
                      exact (ss_par (ga := fun σ => evTop (T.frz pos.line pos.col) c.N (evE T c.N M sc) σ e1) (gb := fun σ => evTop (T.frz pos.line pos.col) c.N (evE T c.N M sc) σ e2) ok.nd hp a1 a2 b1 b2).congr fun σ => by simp only [exS, hp, Option.bind_some]
            · by_cases hc : (isTup e || isComp e) = true
              · exact SS.none.congr fun σ => by
                  cases e <;> first | (simp only [exS, hc, if_true]; done) | exact absurd ⟨_, _, _, rfl⟩ he
              · have hc' : isTup e = false ∧ isComp e = false := by simpa using hc
                exact (ss_tup (g := fun σ => evTop (T.frz pos.line pos.col) c.N (evE T c.N M sc) σ e) ok.nd a b hc'.2 hc'.1).congr fun σ => by
                  cases e <;> first | rfl | exact absurd ⟨_, _, _, rfl⟩ he | (simp [isTup, isComp] at hc')
          | Subscript o ie ps =>
            cases o with
            | Name x px =>
              by_cases hc : (isComp e || isSl ie || !(okNm x && visB sc x)) = true
              · exact SS.none.congr fun σ => by simp only [exS, hc, if_true]
              · cases hi : idx c.N x with
                | none =>
                  exact SS.none.congr fun σ => by
                    simp only [exS, hc, hi, Option.bind_none]
                    cases evTop (T.frz pos.line pos.col) c.N (evE T c.N M sc) σ e <;> rfl
                | some i =>
                  have hc' : (isComp e = false ∧ isSl ie = false) ∧ okNm x = true ∧ visB sc x = true := by simpa using hc
                  obtain ⟨t2, a2, b2⟩ := top_of (M := M) (T.frz pos.line pos.col) ok sc ie
                  exact (ss_item (g := fun σ => evTop (T.frz pos.line pos.col) c.N (evE T c.N M sc) σ e) (gi := fun σ => evTop (T.frz pos.line pos.col) c.N (evE T c.N M sc) σ ie) hi hc'.2.1 hc'.2.2 hc'.1.1 hc'.1.2 a b a2 b2).congr fun σ => by
                    simp only [exS, hc, hi, Option.bind_some]
                    rfl
            | _ => exact SS.none.congr fun σ => by rfl
          | _ => exact SS.none.congr fun σ => by rfl
    | Expr e pos =>
      cases e with
      | Call fn args kws cp =>
        cases fn with
        | Attribute o m ap =>
          cases o with
          | Name x px =>
            cases kws with
            | cons _ _ => exact SS.none.congr fun σ => by rfl
            | nil =>
              by_cases h0 : (okNm x && visB sc x && (ap.endLine == cp.line)) = true
              · have h0' := h0
                rw [Bool.and_eq_true, Bool.and_eq_true] at h0'
                cases hi : idx c.N x with
                | none => exact SS.none.congr fun σ => by simp only [exS, h0, hi, Option.bind_none]; rfl
                | some i =>
                  by_cases hm : m = "append"
                  · subst hm
                    cases args with
                    | nil => exact SS.none.congr fun σ => by simp only [exS, h0, hi, Option.bind_some, if_true]; (repeat (any_goals split)) <;> rfl
                    | cons a args =>
                      cases args with
                      | cons _ _ => exact SS.none.congr fun σ => by simp only [exS, h0, hi, Option.bind_some, if_true]; (repeat (any_goals split)) <;> rfl
                      | nil =>
                        obtain ⟨t, a1, b1⟩ := top_of (M := M) (T.frz pos.line pos.col) ok sc a
                        by_cases hs : starB [a] = true
                        · exact SS.none.congr fun σ => by simp only [exS, h0, hi, Option.bind_some, if_true, hs]; (repeat (any_goals split)) <;> rfl
                        · have hs' : starB [a] = false := by simpa using hs
                          exact (ss_append (g := fun σ => evTop (T.frz pos.line pos.col) c.N (evE T c.N M sc) σ a) hi h0'.1.1 h0'.1.2 hs' h0'.2 a1 b1).congr fun σ => by
                            simp only [exS, h0, hi, Option.bind_some, if_true, hs']
                            rfl
                  · by_cases hm2 : m = "pop"
                    · subst hm2
                      cases args with
                      | cons _ _ => exact SS.none.congr fun σ => by simp only [exS, h0, hi, Option.bind_some, if_true, hm, if_false]; (repeat (any_goals split)) <;> rfl
                      | nil =>
                        exact (ss_pop hi h0'.1.1 h0'.1.2 h0'.2).congr fun σ => by
                          simp only [exS, h0, hi, Option.bind_some, if_true, hm, if_false]
                          cases e : σ[i]? with
                          | none => rfl
                          | some s => cases s with
                            | ow d xs => cases d <;> rfl
                            | _ => rfl
                    · exact SS.none.congr fun σ => by simp only [exS, h0, hi, Option.bind_some, hm, hm2, if_false]; (repeat (any_goals split)) <;> rfl
              · exact SS.none.congr fun σ => by simp only [exS, h0]; rfl
          | _ => exact SS.none.congr fun σ => by rfl
        | _ => exact SS.none.congr fun σ => by rfl
      | _ => exact SS.none.congr fun σ => by rfl
    | If e a b pos =>
      obtain ⟨t, a1, b1⟩ := (sound ok M).t sc (fun _ => true) e
      exact (ss_if (cl := T.fgt pos.line pos.col) (f := evT T c.N M sc) (fun X x => a1 X x.cx) b1 (IL a) (IL b)).congr fun σ => by simp only [exS]
    | While e a orelse pos =>
      cases orelse with
      | cons _ _ => exact SS.none.congr fun σ => by rfl
      | nil =>
        obtain ⟨t, a1, b1⟩ := (sound ok M).t sc (fun _ => true) e
        exact (ss_while (cl := T.fgt pos.line pos.col) (f := evT T c.N M sc) (W := W) (fun X x => a1 X x.cx) b1 (IL a)).congr fun σ => by simp only [exS]
    | For tg it a orelse pos =>
      cases orelse with
      | cons _ _ => exact SS.none.congr fun σ => by rfl
      | nil =>
        by_cases hs : ∃ a b p, it = .Set a b p
        · obtain ⟨a', b', p', rfl⟩ := hs
          exact SS.none.congr fun σ => by
            have : ∀ σ, evI T c.N M sc σ (.Set a' b' p') = none := fun σ => by cases M <;> rfl
            simp only [exS, evItr, this, Option.bind_none, ite_self]
        · obtain ⟨wi, a1, b1⟩ := (sound ok M).i sc (fun _ => true) it tg
          exact (ss_for (cl := T.fgt pos.line pos.col) (f := evI T c.N M sc) ok.nd (fold_of fun a b p q => hs ⟨a, b, p, q⟩) (fun X x => a1 X x.cx) b1 (IL a)).congr fun σ => by simp only [exS]
    | _ => exact SS.none.congr fun σ => by rfl
end
end Pv

/-! Part O: defs and programs -/
namespace Pv
open PySem L2 PySem.Spec PyProof.Rows

structure FD where
  N : List Str
  ps : List Str
  sc : Scope
  body : List Stmt
  dfl : List (Nat × List PV)
  kws : List (Nat × List Str) := []
  own : Bool := false
  gen : Bool := false
structure Pg where
  defsL : List (Str × FD)
  conL : List (Str × PV)
  fgtL : List ((Nat × Nat) × List (Nat × Bool))
  frzL : List (Nat × Nat)
  M : Nat
  D : Nat
  W : Nat
def Pg.defs (p : Pg) (g : Str) : Option FD := p.defsL.lookup g
def Pg.dfl (p : Pg) (g : Str) (n : Nat) : Option (List PV) := (p.defs g).bind fun fd => fd.dfl.lookup n
def Pg.kwd (p : Pg) (g : Str) (n : Nat) (ks : List Str) : Bool := match p.defs g with
  | some fd => fd.kws.any fun q => q.1 == n && q.2 == ks
  | none => false
def Pg.con (p : Pg) (x : Str) : Option PV := p.conL.lookup x
def Pg.own (p : Pg) (g : Str) : Bool := match p.defs g with
  | some fd => fd.own
  | none => false
def Pg.fgt (p : Pg) (l c : Nat) : List (Nat × Bool) := match p.fgtL.find? fun q => q.1.1 == l && q.1.2 == c with
  | some q => q.2
  | none => []
def Pg.frz (p : Pg) (l c : Nat) : Bool := p.frzL.any fun q => q.1 == l && q.2 == c
def tbOf (p : Pg) (call : Str → List PV → Out) : Tb := ⟨call, p.own, p.dfl, p.kwd, p.con, p.fgt, p.frz, false⟩
def startF (N : List Str) (xs : List PV) : Fm := xs.map .val ++ List.replicate (N.length - xs.length) .emp
def endF : Option Fl → Out
  | some (.rt x o) => some (x, o)
  | some (.nx _) => some (.non, false)
  | _ => none
def runB (p : Pg) (T : Tb) (fd : FD) (xs : List PV) : Out := if xs.length = fd.ps.length then endF (exL (exS (T.wg fd.gen) fd.N p.M p.W fd.sc p.D) fd.body (startF fd.N xs)) else none
def run (p : Pg) : Nat → Str → List PV → Out
  | 0 => fun _ _ => none
  | d + 1 => fun g xs => match p.defs g with
    | none => none
    | some fd => runB p (tbOf p (run p d)) fd xs

/-- a def stands behind the top -/
structure DefOk (K : PySem.W.Frag) (mg : Str → Option Value) (g : Str) (fd : FD) (f : Addr) (fdd : FuncData) : Prop where
  mg : mg g = some (.ref f)
  kp : PySem.W.keepIn K (.ref f) = true
  ex : ∃ (oc : Value) (od : Option Addr) (name qual : Str) (params : Arguments) (dV kV doc pm : Value) (an : Option Addr) (cdv ct : Value) (osl : Array (Option Value)),
    fdd = PySem.W.fnOf name qual params fd.body fd.sc dV kV doc pm an cdv ct ∧ K.lookup f = some ⟨oc, od, .func fdd, osl⟩ ∧ PySem.W.codeIn K cdv qual = true
  scope : FnScope fd.N fd.ps fd.sc
  dfl : ∀ q ∈ fd.dfl, ∃ dvs us, Binds K fdd fd.ps us ∧ Vals dvs us ∧ (∀ F, Reps K F dvs q.2) ∧ q.1 + q.2.length = fd.ps.length
  kwd : ∀ q ∈ fd.kws, ∃ g1 g2, KBn K fdd fd.ps q.1 q.2 g1 g2 ∧ (∀ vs zs, g2 vs zs = vs ++ zs) ∧ q.1 + q.2.length = fd.ps.length
inductive AllOk (K : PySem.W.Frag) (mg : Str → Option Value) : List (Str × FD) → Prop
  | nil : AllOk K mg []
  | cons {g : Str} {fd : FD} {l : List (Str × FD)} {f : Addr} {fdd : FuncData} : DefOk K mg g fd f fdd → AllOk K mg l → AllOk K mg ((g, fd) :: l)
theorem AllOk.mem {K : PySem.W.Frag} {mg : Str → Option Value} : ∀ {l : List (Str × FD)}, AllOk K mg l → ∀ q ∈ l, ∃ f fdd, DefOk K mg q.1 q.2 f fdd
  | _, .nil, q, h => by cases h
  | _, .cons d r, q, h => by
    rcases List.mem_cons.mp h with rfl | h
    · exact ⟨_, _, d⟩
    · exact r.mem q h
structure PgOk (K : PySem.W.Frag) (mg : Str → Option Value) (p : Pg) : Prop where
  defs : AllOk K mg p.defsL
  con : ∀ q ∈ p.conL, ∃ u v, mg q.1 = some u ∧ RelV v u ∧ ∀ F, Rep K F v q.2
  blt : ∀ x ∈ bltNames, mg x = none
  cls : ∀ q ∈ tyNames, mg q.1 = none
theorem PgOk.def {K : PySem.W.Frag} {mg : Str → Option Value} {p : Pg} (ok : PgOk K mg p) {g : Str} {fd : FD} (h : p.defs g = some fd) : ∃ f fdd, DefOk K mg g fd f fdd := ok.defs.mem (g, fd) (PySem.mem_of_lookup h)

theorem memN {α : Type} {n : Nat} {x : α} : ∀ {l : List (Nat × α)}, l.lookup n = some x → (n, x) ∈ l
  | [], h => by cases h
  | (k, v) :: l, h => by
    rw [List.lookup_cons] at h
    by_cases e : n = k
    · subst e
      simp at h
      subst h
      exact List.mem_cons_self
    · have : (n == k) = false := by simpa using e
      rw [this] at h
      exact List.mem_cons_of_mem _ (memN h)
section
variable {P : Program} {w : World} {K : PySem.W.Frag} {mg : Str → Option Value} {p : Pg}
theorem start_vrel {F : Hp} : ∀ {vs : List V} {xs : List PV}, Reps K F vs xs → ∀ (i : Nat) x, (xs.map Slot.val)[i]? = some (.val x) → ∃ v, (vs.map some)[i]? = some (some v) ∧ Rep K F v x := by
  intro vs xs r i x e
  rw [List.getElem?_map] at e
  cases h : xs[i]? with
  | none => simp [h] at e
  | some y =>
    simp only [h, Option.map_some, Option.some.injEq, Slot.val.injEq] at e
    subst e
    obtain ⟨v, h1, h2⟩ := r.get h
    exact ⟨v, by rw [List.getElem?_map, h1]; rfl, h2⟩
theorem start_rel {F H : Hp} {N : List Str} {vs : List V} {xs : List PV} {ad : Nat → Addr} (s : Same F H) (ti : Tin B F) (r : Reps K F vs xs) : SRel K B H F F ad (startF N xs) (L2.start N vs) H := by
  have hl := r.length
  have get : ∀ (i : Nat) sl, (startF N xs)[i]? = some sl → (∃ x, xs[i]? = some x ∧ sl = .val x) ∨ sl = .emp := fun i sl e => by
    unfold startF at e
    by_cases hi : i < xs.length
    · rw [List.getElem?_append_left (by simpa using hi), List.getElem?_map] at e
      cases h : xs[i]? with
      | none => simp [h] at e
      | some y => simp only [h, Option.map_some, Option.some.injEq] at e; exact .inl ⟨y, rfl, e.symm⟩
    · rw [List.getElem?_append_right (by simpa using hi), List.getElem?_replicate] at e
      split at e
      · cases e; exact .inr rfl
      · cases e
  refine ⟨Grow.refl s |> fun g => ⟨g.f, Same.refl _, s, g.new⟩, ?_, fun i x e => ?_, fun i d ys e => ?_, fun i j d d' ys zs e => ?_, ti⟩
  · unfold startF L2.start
    simp only [List.length_append, List.length_map, List.length_replicate, hl]
  · rcases get i _ e with ⟨y, h, q⟩ | q
    · cases q
      obtain ⟨v, h1, h2⟩ := r.get h
      refine ⟨v, ?_, h2⟩
      unfold L2.start
      have hi : i < vs.length := (List.getElem?_eq_some_iff.mp h1).1
      rw [List.getElem?_append_left (by simpa using hi), List.getElem?_map, h1]
      rfl
    · cases q
  · rcases get i _ e with ⟨y, h, q⟩ | q <;> cases q
  · rcases get i _ e with ⟨y, h, q⟩ | q <;> cases q
theorem Grow.self {F H : Hp} (s : Same F H) : Grow F H F H := Grow.refl s

/-- a def that holds generator expressions: its code object is one of those whose tables are kept -/
def GenD (K : PySem.W.Frag) (mg : Str → Option Value) (cs : List (Addr × Addr)) (g : Str) : Prop := mg "all" = none ∧ mg "any" = none ∧ ∃ q ∈ cs, ∃ f oc od fdd osl, mg g = some (.ref f) ∧ K.lookup f = some ⟨oc, od, .func fdd, osl⟩ ∧ fdd.code = .ref q.1
def GensOk (K : PySem.W.Frag) (mg : Str → Option Value) (p : Pg) (cs : List (Addr × Addr)) : Prop := ∀ g fd, p.defs g = some fd → fd.gen = true → GenD K mg cs g
theorem GensOk.nil {K : PySem.W.Frag} {mg : Str → Option Value} {p : Pg} {cs : List (Addr × Addr)} (h : (p.defsL.all fun q => !q.2.gen) = true) : GensOk K mg p cs := fun g fd e e2 => by
  rw [List.all_eq_true] at h
  have := h (g, fd) (PySem.mem_of_lookup e)
  rw [show (g, fd).2.gen = true from e2] at this
  cases this
theorem run_ok (ok : PgOk K mg p) {cs : List (Addr × Addr)} (ge : GensOk K mg p cs) : ∀ d base, K.In base → base.Ns mainGlobals mg → (∀ q ∈ cs, GxR.TabB base mg q.1 q.2) → ∀ g fd f fdd, p.defs g = some fd → DefOk K mg g fd f fdd → FnOk P w K mg base CX0 (2 * d) f fdd fd.ps (spOf K (cs.map (·.2)) fd.ps.length (run p d g))
  | 0, base, _, _, _, g, fd, f, fdd, hd, D => by
    refine ⟨fun vs H Q E h => h.1, fun A outer s H args us vs Q E hr he hb hv h => ?_⟩
    obtain ⟨_, F, xs, x, own, _, _, h, _⟩ := h
    simp only [run] at h
    cases h
  | d + 1, base, hK, hG, hT, g, fd, f, fdd, hd, D => by
    obtain ⟨oc, od, name, qual, params, dV, kV, doc, pm, an, cdv, ct, osl, rfl, lk, hcd⟩ := D.ex
    obtain ⟨tb, htb⟩ : ∃ tb : Addr, fd.gen = true → (mg "all" = none ∧ mg "any" = none) ∧ tb ∈ cs.map (·.2) ∧ ∃ cd, cdv = .ref cd ∧ GxR.TabB base mg cd tb := by
      by_cases hg : fd.gen = true
      · obtain ⟨h1, h2, q, hq, f2, oc2, od2, fdd2, osl2, e1, e2, e3⟩ := ge g fd hd hg
        refine ⟨q.2, fun _ => ⟨⟨h1, h2⟩, List.mem_map.mpr ⟨q, hq, rfl⟩, q.1, ?_, hT q hq⟩⟩
        have e := D.mg.symm.trans e1
        cases e
        have e := lk.symm.trans e2
        cases e
        exact e3
      · exact ⟨0, fun h => absurd h hg⟩
    have T : TabOk ⟨P, w, K, mg, base, fd.N, 2 * d, cs.map (·.2), fd.gen, tb⟩ ((tbOf p (run p d)).wg fd.gen) := by
      refine ⟨fun x q h => ok.con (x, q) (PySem.mem_of_lookup h), fun g2 n ds h => ?_, fun g2 n ks h => ?_, fun x h => ?_, fun x ty h => ok.cls (x, ty) (PySem.mem_of_lookup h), D.scope.nd, fun h => ⟨⟨h, (htb h).2.1⟩, (htb h).1⟩⟩
      · obtain ⟨fd2, h2, h⟩ := Option.bind_eq_some_iff.mp h
        obtain ⟨f2, fdd2, D2⟩ := ok.def h2
        obtain ⟨dvs, us, b1, b2, b3, b4⟩ := D2.dfl (n, ds) (memN h)
        exact ⟨f2, fdd2, fd2.ps, dvs, us, D2.mg, D2.kp, run_ok ok ge d base hK hG hT g2 fd2 f2 fdd2 h2 D2, b1, b2, b3, b4⟩
      · have h : p.kwd g2 n ks = true := h
        unfold Pg.kwd at h
        cases h2 : p.defs g2 with
        | none => rw [h2] at h; cases h
        | some fd2 =>
        rw [h2] at h
        obtain ⟨⟨n', ks'⟩, hq, h⟩ := List.any_eq_true.mp h
        simp only [Bool.and_eq_true, beq_iff_eq] at h
        obtain ⟨rfl, rfl⟩ := h
        obtain ⟨f2, fdd2, D2⟩ := ok.def h2
        obtain ⟨g1, g2', b1, b2, b3⟩ := D2.kwd _ hq
        exact ⟨f2, fdd2, fd2.ps, g1, g2', D2.mg, D2.kp, run_ok ok ge d base hK hG hT g2 fd2 f2 fdd2 h2 D2, b1, b2, b3⟩
      · unfold isBlt at h
        obtain ⟨y, hy, e⟩ := List.any_eq_true.mp h
        have e' : y = x := by simpa using e
        subst e'
        exact ok.blt y hy
    refine fn_of (k := 2 * d + 1) lk hcd D.scope (fun vs H Q E h => h.1) fun A outer s H vs Q E hr hsp => ?_
    obtain ⟨hl, F, xs, x, own, ⟨sF, ti⟩, rs, hrun, k⟩ := hsp
    simp only [run, hd] at hrun
    unfold runB at hrun
    split at hrun
    · obtain ⟨t, a, b⟩ := sss_of (c := ⟨P, w, K, mg, base, fd.N, 2 * d, cs.map (·.2), fd.gen, tb⟩) (sc := fd.sc) (f := fun σ s => exS ((tbOf p (run p d)).wg fd.gen) fd.N p.M p.W fd.sc p.D σ s) (l := fd.body) fun s _ => sound_s (M := p.M) (W := p.W) T fd.sc p.D s
      refine ⟨t, PSs.nox (a _ ⟨⟨rfl, rfl, rfl, rfl, rfl, rfl, rfl, hr.mono (by show 2 * d ≤ 2 * d + 1; omega), rfl, fun h => ⟨hr, (htb h).2.2⟩, fun x _ => .inl rfl⟩, PassesOwn.never, D.scope.kind⟩), ?_⟩
      cases e : exL (exS ((tbOf p (run p d)).wg fd.gen) fd.N p.M p.W fd.sc p.D) fd.body (startF fd.N xs) with
      | none => rw [e] at hrun; simp [endF] at hrun
      | some fl =>
        rw [e] at hrun
        refine b _ fl e H F F (fun _ => 0) _ H _ (start_rel sF ti rs) ?_
        cases fl with
        | rt y o =>
          simp only [endF] at hrun
          cases hrun
          exact fun F' H' v g res => k v F' H' g res
        | nx σ' =>
          simp only [endF] at hrun
          cases hrun
          exact fun F' ad σ H' r => k .non F' H' r.g (.of .non)
        | bk σ' => simp [endF] at hrun
        | ct σ' => simp [endF] at hrun
    · cases hrun
/-- the law's own end -/
theorem law_end (ok : PgOk K mg p) (ng : (p.defsL.all fun q => !q.2.gen) = true) {d : Nat} {base : Heap} (hK : K.In base) (hG : base.Ns mainGlobals mg) {g x : Str} {fd : FD} {f : Addr} {fdd : FuncData} (hd : p.defs g = some fd) (D : DefOk K mg g fd f fdd) (hps : fd.ps = [x]) :
    FnOk P w K mg base CX0 (2 * d) f fdd [x] (spOf K [] 1 (run p d g)) := by
  have := run_ok (P := P) (w := w) ok (cs := []) (.nil ng) d base hK hG (fun q h => nomatch h) g fd f fdd hd D
  rw [hps] at this
  exact this
theorem law_endG (ok : PgOk K mg p) {cs : List (Addr × Addr)} (ge : GensOk K mg p cs) {d : Nat} {base : Heap} (hK : K.In base) (hG : base.Ns mainGlobals mg) (hT : ∀ q ∈ cs, GxR.TabB base mg q.1 q.2) {g x : Str} {fd : FD} {f : Addr} {fdd : FuncData} (hd : p.defs g = some fd) (D : DefOk K mg g fd f fdd) (hps : fd.ps = [x]) :
    FnOk P w K mg base CX0 (2 * d) f fdd [x] (spOf K (cs.map (·.2)) 1 (run p d g)) := by
  have := run_ok (P := P) (w := w) ok ge d base hK hG hT g fd f fdd hd D
  rw [hps] at this
  exact this
theorem law_spB {B : List Addr} {d : Nat} {g : Str} {H : Hp} {a : Addr} {ns : List Int} (ti : Tin B H) (h : run p d g [.lst (ns.map .int)] = some (.bl true, false)) (hS : SqL K H a (ns.map V.int)) : spOf K B 1 (run p d g) [.ref a] H (fun v _ => v = .bl true) fun _ _ _ => False := by
  refine ⟨rfl, H, [.lst (ns.map .int)], .bl true, false, ⟨Same.refl _, ti⟩, .cons (.lst hS (Reps.ints ns)) .nil, h, fun v F' H' g res => ?_⟩
  unfold Res at res
  rw [if_neg Bool.false_ne_true] at res
  exact res.ofBl
theorem law_sp {d : Nat} {g : Str} {H : Hp} {a : Addr} {ns : List Int} (h : run p d g [.lst (ns.map .int)] = some (.bl true, false)) (hS : SqL K H a (ns.map V.int)) : spOf K [] 1 (run p d g) [.ref a] H (fun v _ => v = .bl true) fun _ _ _ => False :=
  law_spB (fun q h => nomatch h) h hS
end
end Pv

/-! Part P: the evaluator of statements with what follows handed in; loops over states -/
namespace Pv
open PySem L2

abbrev Kt := Fm → Out
def finK (k kb kc : Kt) : Fl → Out
  | .nx σ => k σ
  | .rt x o => some (x, o)
  | .bk σ => kb σ
  | .ct σ => kc σ
def evTopK (b : Bool) (N : List Str) (f : Sl → PySem.Expr → Out) (σ : Fm) (e : PySem.Expr) (k : PV → Bool → Fm → Out) : Out :=
  if ownAt N σ e then (if b then (f (vis (frzOf N e σ)) e).bind fun p => k p.1 p.2 (frzOf N e σ)
      else (f (thaw σ) e).bind fun p => if p.1.flat then k p.1 false σ else none)
  else (f (vis σ) e).bind fun p => k p.1 p.2 σ
theorem evTopK_eq {b : Bool} {N : List Str} {f : Sl → PySem.Expr → Out} {σ : Fm} {e : PySem.Expr} {k : PV → Bool → Fm → Out} : evTopK b N f σ e k = (evTop b N f σ e).bind fun p => k p.1 p.2.1 p.2.2 := by
  unfold evTopK evTop
  split
  · split
    · rw [Option.bind_assoc]; rfl
    · rw [Option.bind_assoc]
      congr 1
      funext p
      split <;> rfl
  · rw [Option.bind_assoc]; rfl
def ownK (N : List Str) (f : Sl → PySem.Expr → Out) (σ : Fm) (e : PySem.Expr) (k : List PV → Fm → Out) : Out :=
  if ownAt N σ e then (ownO (f (vis (frzOf N e σ)) e)).bind fun ys => k ys (frzOf N e σ)
  else (ownO (f (vis σ) e)).bind fun ys => k ys σ
theorem ownT_map {r : Out} {σ : Fm} {k : List PV → Fm → Out} : (ownT (r.bind fun p => some (p.1, p.2, σ))).bind (fun q => k q.1 q.2) = (ownO r).bind fun ys => k ys σ := by
  cases r with
  | none => rfl
  | some p =>
    obtain ⟨x, o⟩ := p
    cases x <;> cases o <;> rfl
theorem ownK_eq {N : List Str} {f : Sl → PySem.Expr → Out} {σ : Fm} {e : PySem.Expr} {k : List PV → Fm → Out} : ownK N f σ e k = (ownT (evTop true N f σ e)).bind fun q => k q.1 q.2 := by
  unfold ownK evTop
  split
  · rw [if_pos rfl, ownT_map]
  · rw [ownT_map]
def ownLK (N : List Str) (f : Sl → PySem.Expr → Out) (σ : Fm) (e : PySem.Expr) (k : List PV → Fm → Out) : Out :=
  if ownAt N σ e then (ownO (f (thaw σ) e)).bind fun ys => if PV.flats ys then k ys σ else none
  else (ownO (f (vis σ) e)).bind fun ys => k ys σ
theorem ownLK_eq {N : List Str} {f : Sl → PySem.Expr → Out} {σ : Fm} {e : PySem.Expr} {k : List PV → Fm → Out} : ownLK N f σ e k = (ownL N f σ e).bind fun q => k q.1 q.2 := by
  unfold ownLK ownL
  split
  · rw [Option.bind_assoc]
    congr 1
    funext ys
    split <;> rfl
  · rw [Option.bind_assoc]; rfl
def evItrK (N : List Str) (f : Sl → PySem.Expr → Option (List PV)) (σ : Fm) (e : PySem.Expr) (k : List PV → Fm → Out) : Out :=
  if ownAt N σ e then (f (vis (frzOf N e σ)) e).bind fun xs => k xs (frzOf N e σ)
  else (f (vis σ) e).bind fun xs => k xs σ
theorem evItrK_eq {N : List Str} {f : Sl → PySem.Expr → Option (List PV)} {σ : Fm} {e : PySem.Expr} {k : List PV → Fm → Out} : evItrK N f σ e k = (evItr N f σ e).bind fun p => k p.1 p.2 := by
  unfold evItrK evItr
  split <;> (rw [Option.bind_assoc]; rfl)
def stK (N : List Str) (sc : Scope) (x : Str) (s : Slot) (σ : Fm) (k : Kt) : Out := (storeN N sc x s σ).bind k
def forK (cl : Fm → Fm) (bd : PV → Fm → Kt → Out) (body : Fm → Kt → Kt → Kt → Out) (k : Kt) : List PV → Fm → Out
  | [], σ => k σ
  | x :: r, σ => bd x σ fun σ1 => body σ1 (fun σ => forK cl bd body k r (cl σ)) (fun σ => k (cl σ)) (fun σ => forK cl bd body k r (cl σ))
def whK (cl : Fm → Fm) (test : Fm → Option Bool) (body : Fm → Kt → Kt → Kt → Out) (k : Kt) : Nat → Fm → Out
  | 0, _ => none
  | w + 1, σ => (test σ).bind fun b => if b then body σ (fun σ => whK cl test body k w (cl σ)) (fun σ => k (cl σ)) (fun σ => whK cl test body k w (cl σ)) else k σ
def setIx (xs : List PV) (q v : PV) : Option (List PV) := match q with
  | .int k => (ixN xs.length k).map fun j => xs.set j v
  | _ => none
def pushO (xs : List PV) (v : PV) : Option (List PV) := if xs.length < big then some (xs ++ [v]) else none
def popO (ys : List PV) : Option (List PV) := if ys.isEmpty then none else some ys.dropLast
def exLK (f : Fm → Stmt → Kt → Kt → Kt → Out) : List Stmt → Fm → Kt → Kt → Kt → Out
  | [], σ, k, _, _ => k σ
  | s :: r, σ, k, kb, kc => f σ s (fun σ' => exLK f r σ' k kb kc) kb kc
def exK (T : Tb) (N : List Str) (M W : Nat) (sc : Scope) : Nat → Fm → Stmt → Kt → Kt → Kt → Out
  | 0, _, _, _, _, _ => none
  | n + 1, σ, s, k, kb, kc => match s with
    | .Pass _ => k σ
    | .Break _ => kb σ
    | .Continue _ => kc σ
    | .Return none _ => some (.non, false)
    | .Return (some (.Name x p)) pos => if okNm x && visB sc x then (match idx N x with
        | some i => (match σ[i]? with
          | some (.ow false xs) => some (.lst xs, true)
          | some (.val v) => some (v, false)
          | _ => none)
        | none => none) else evTopK (T.frz pos.line pos.col) N (evE T N M sc) σ (.Name x p) fun x o _ => some (x, o)
    | .Return (some e) pos => evTopK (T.frz pos.line pos.col) N (evE T N M sc) σ e fun x o _ => some (x, o)
    | .Assign [.Name x px] e pos => if isD0 e then stK N sc x (.dct []) σ k else if isComp e && !(isLC e) then none else
        if frE T e then (if T.frz pos.line pos.col then ownLK N (evE T N M sc) σ e (fun ys σ => stK N sc x (.own ys) σ k) else ownK N (evE T N M sc) σ e (fun ys σ => stK N sc x (.own ys) σ k))
        else evTopK (T.frz pos.line pos.col) N (evE T N M sc) σ e fun v _ σ => stK N sc x (.val v) σ k
    | .Assign [.Tuple ts _ _] (.Tuple vs _ _) pos => (parB sc ts vs).bind fun xy =>
        (match vs with
        | [a, b] => evTopK (T.frz pos.line pos.col) N (evE T N M sc) σ a fun v _ σ => evTopK (T.frz pos.line pos.col) N (evE T N M sc) σ b fun w _ σ =>
            stK N sc xy.1 (.val v) σ fun σ => stK N sc xy.2 (.val w) σ k
        | _ => none)
    | .Assign [.Tuple ts kk pt] e pos => if isTup e || isComp e then none else
        evTopK (T.frz pos.line pos.col) N (evE T N M sc) σ e fun v _ σ => updTK N sc (fun _ => true) (.Tuple ts kk pt) v fun us => k (appF us σ)
    | .Assign [.Subscript (.Name x _) ie _] e pos => if isComp e || isSl ie || !(okNm x && visB sc x) then none else evTopK (T.frz pos.line pos.col) N (evE T N M sc) σ e fun v _ σ1 => (idx N x).bind fun i =>
        (match σ1[i]? with
        | some (.ow false _) => evTopK (T.frz pos.line pos.col) N (evE T N M sc) σ1 ie fun q _ σ2 => (match σ2[i]? with
          | some (.ow false xs) => (setIx xs q v).bind fun ys => k (σ2.set i (.own ys))
          | _ => none)
        | some (.ow true _) => evTopK (T.frz pos.line pos.col) N (evE T N M sc) σ1 ie fun q _ σ2 => (match σ2[i]? with
          | some (.ow true xs) => (dSet xs q v).bind fun ys => k (σ2.set i (.dct ys))
          | _ => none)
        | _ => none)
    | .Expr (.Call (.Attribute (.Name x _) m ap) args [] cp) pos => if !(okNm x && visB sc x && (ap.endLine == cp.line)) then none else (idx N x).bind fun i =>
        (match σ[i]? with
        | some (.ow false ys) => if m = "append" then (match args with
            | [a] => if starB [a] then none else evTopK (T.frz pos.line pos.col) N (evE T N M sc) σ a fun v _ σ1 => (match σ1[i]? with
              | some (.ow false xs) => (pushO xs v).bind fun ys => k (σ1.set i (.own ys))
              | _ => none)
            | _ => none)
          else if m = "pop" then (match args with
            | [] => (popO ys).bind fun ys => k (σ.set i (.own ys))
            | _ => none)
          else none
        | _ => none)
    | .If c a b pos => (evTst (evT T N M sc) σ c).bind fun t => if t then exLK (exK T N M W sc n) a σ (fun σ => k (clr (T.fgt pos.line pos.col) σ)) kb kc else exLK (exK T N M W sc n) b σ (fun σ => k (clr (T.fgt pos.line pos.col) σ)) kb kc
    | .While c a [] pos => whK (clr (T.fgt pos.line pos.col)) (fun σ => evTst (evT T N M sc) σ c) (fun σ => exLK (exK T N M W sc n) a σ) k W (clr (T.fgt pos.line pos.col) σ)
    | .For tg it a [] pos => evItrK N (evI T N M sc) σ it fun xs σ1 => forK (clr (T.fgt pos.line pos.col)) (fun x σ k => updTK N sc (fun _ => true) tg x fun us => k (appF us σ)) (fun σ => exLK (exK T N M W sc n) a σ) k xs (clr (T.fgt pos.line pos.col) σ1)
    | _ => none

/-! ### the same -/
theorem exLK_eq {f : Fm → Stmt → Kt → Kt → Kt → Out} {g : Fm → Stmt → Option Fl} : ∀ {l : List Stmt}, (∀ s ∈ l, ∀ σ k kb kc, f σ s k kb kc = (g σ s).bind (finK k kb kc)) → ∀ σ k kb kc, exLK f l σ k kb kc = (exL g l σ).bind (finK k kb kc)
  | [], _, σ, k, kb, kc => rfl
  | [s], h, σ, k, kb, kc => h s (List.mem_cons_self ..) σ _ _ _
  | s :: s' :: l, h, σ, k, kb, kc => by
    unfold exLK exL
    rw [h s (List.mem_cons_self ..), Option.bind_assoc]
    congr 1
    funext fl
    cases fl with
    | nx σ' => exact exLK_eq (l := s' :: l) (fun x hx => h x (List.mem_cons_of_mem _ hx)) σ' k kb kc
    | _ => rfl
theorem forK_eq {cl : Fm → Fm} {bd : PV → Fm → Kt → Out} {bd' : PV → Fm → Option Fm} {body : Fm → Kt → Kt → Kt → Out} {body' : Fm → Option Fl} (h : ∀ σ k kb kc, body σ k kb kc = (body' σ).bind (finK k kb kc)) (hb : ∀ x σ k, bd x σ k = (bd' x σ).bind k) (k kb kc : Kt) :
    ∀ xs σ, forK cl bd body k xs σ = (forL cl bd' body' xs σ).bind (finK k kb kc)
  | [], σ => rfl
  | x :: r, σ => by
    unfold forK forL
    rw [hb, Option.bind_assoc]
    congr 1
    funext σ1
    rw [h, Option.bind_assoc]
    congr 1
    funext fl
    cases fl with
    | nx σ' => exact forK_eq h hb k kb kc r (cl σ')
    | ct σ' => exact forK_eq h hb k kb kc r (cl σ')
    | bk σ' => rfl
    | rt x o => rfl
theorem whK_eq {cl : Fm → Fm} {test : Fm → Option Bool} {body : Fm → Kt → Kt → Kt → Out} {body' : Fm → Option Fl} (h : ∀ σ k kb kc, body σ k kb kc = (body' σ).bind (finK k kb kc)) (k kb kc : Kt) :
    ∀ w σ, whK cl test body k w σ = (whL cl test body' w σ).bind (finK k kb kc)
  | 0, σ => rfl
  | w + 1, σ => by
    unfold whK whL
    rw [Option.bind_assoc]
    congr 1
    funext b
    cases b with
    | false => rfl
    | true =>
      simp only [if_true]
      rw [h, Option.bind_assoc]
      congr 1
      funext fl
      cases fl with
      | nx σ' => exact whK_eq h k kb kc w (cl σ')
      | ct σ' => exact whK_eq h k kb kc w (cl σ')
      | bk σ' => rfl
      | rt x o => rfl
theorem exK_eq (T : Tb) (N : List Str) (M W : Nat) (sc : Scope) : ∀ n σ s k kb kc, exK T N M W sc n σ s k kb kc = (exS T N M W sc n σ s).bind (finK k kb kc)
  | 0, σ, s, k, kb, kc => by simp only [exK, exS, Option.bind_none]
  | n + 1, σ, s, k, kb, kc => by
    have IL : ∀ l σ k kb kc, exLK (exK T N M W sc n) l σ k kb kc = (exL (exS T N M W sc n) l σ).bind (finK k kb kc) := fun l σ k kb kc => exLK_eq (fun s _ σ k kb kc => exK_eq T N M W sc n σ s k kb kc) σ k kb kc
    cases s with
    | Pass pos => simp only [exK, exS, Option.bind_some, finK]
    | Break pos => simp only [exK, exS, Option.bind_some, finK]
    | Continue pos => simp only [exK, exS, Option.bind_some, finK]
    | Return v pos =>
      cases v with
      | none => simp only [exK, exS, Option.bind_some, finK]
      | some e =>
        by_cases hn : ∃ x p, e = .Name x p
        · obtain ⟨x, p, rfl⟩ := hn
          simp only [exK, exS]
          by_cases h0 : (okNm x && visB sc x) = true
          · simp only [h0, if_true]
            cases idx N x with
            | none => rfl
            | some i =>
              simp only
              cases σ[i]? with
              | none => rfl
              | some sl => cases sl with
                | ow d xs => cases d <;> rfl
                | _ => rfl
          · simp only [h0]
            rw [evTopK_eq]
            show _ = Option.bind (Option.bind _ _) _
            rw [Option.bind_assoc]; rfl
        · have e1 : exK T N M W sc (n + 1) σ (.Return (some e) pos) k kb kc = evTopK (T.frz pos.line pos.col) N (evE T N M sc) σ e fun x o _ => some (x, o) := by
            cases e <;> first | rfl | exact absurd ⟨_, _, rfl⟩ hn
          have e2 : exS T N M W sc (n + 1) σ (.Return (some e) pos) = (evTop (T.frz pos.line pos.col) N (evE T N M sc) σ e).bind fun p => some (.rt p.1 p.2.1) := by
            cases e <;> first | rfl | exact absurd ⟨_, _, rfl⟩ hn
          rw [e1, e2, evTopK_eq, Option.bind_assoc]; rfl
    | Assign ts e pos =>
      cases ts with
      | nil => rfl
      | cons tg ts =>
        cases ts with
        | cons _ _ => cases tg <;> first | rfl | (rename_i v _ _; cases v <;> rfl)
        | nil =>
          cases tg with
          | Name x px =>
            simp only [exK, exS]
            split
            · unfold stK
              cases storeN N sc x (.dct []) σ <;> rfl
            split
            · rfl
            · split
              · split
                · rw [ownLK_eq, Option.bind_assoc]
                  congr 1
                  funext q
                  unfold stK
                  cases storeN N sc x (.own q.1) q.2 <;> rfl
                · rw [ownK_eq, Option.bind_assoc]
                  congr 1
                  funext q
                  unfold stK
                  cases storeN N sc x (.own q.1) q.2 <;> rfl
              · rw [evTopK_eq, Option.bind_assoc]
                congr 1
                funext p
                unfold stK
                cases storeN N sc x (.val p.1) p.2.2 <;> rfl
          | Tuple ts kk pt =>
            by_cases he : ∃ vs k2 p2, e = .Tuple vs k2 p2
            · obtain ⟨vs, k2, p2, rfl⟩ := he
              simp only [exK, exS]
              rw [Option.bind_assoc]
              congr 1
              funext xy
              cases vs with
              | nil => rfl
              | cons a vs =>
                cases vs with
                | nil => rfl
                | cons b vs =>
                  cases vs with
                  | cons _ _ => rfl
                  | nil =>
                    simp only
                    rw [evTopK_eq, Option.bind_assoc]
                    congr 1
                    funext p
                    rw [evTopK_eq, Option.bind_assoc]
                    congr 1
                    funext q
                    unfold stK
                    rw [Option.bind_assoc]
                    congr 1
                    funext σ1
                    cases storeN N sc xy.2 (.val q.1) σ1 <;> rfl
            · have e1 : exK T N M W sc (n + 1) σ (.Assign [.Tuple ts kk pt] e pos) k kb kc = if isTup e || isComp e then none else
                  evTopK (T.frz pos.line pos.col) N (evE T N M sc) σ e fun v _ σ => updTK N sc (fun _ => true) (.Tuple ts kk pt) v fun us => k (appF us σ) := by
                cases e <;> first | rfl | exact absurd ⟨_, _, _, rfl⟩ he
              have e2 : exS T N M W sc (n + 1) σ (.Assign [.Tuple ts kk pt] e pos) = if isTup e || isComp e then none else
                  (evTop (T.frz pos.line pos.col) N (evE T N M sc) σ e).bind fun p => (updT N sc (fun _ => true) (.Tuple ts kk pt) p.1).map fun us => .nx (appF us p.2.2) := by
                cases e <;> first | rfl | exact absurd ⟨_, _, _, rfl⟩ he
              rw [e1, e2]
              split
              · rfl
              · rw [evTopK_eq, Option.bind_assoc]
                congr 1
                funext p
                rw [updTK_eq]
                cases updT N sc (fun _ => true) (.Tuple ts kk pt) p.1 <;> rfl
          | Subscript o ie ps =>
            cases o with
            | Name x px =>
              simp only [exK, exS]
              split
              · rfl
              · rw [evTopK_eq, Option.bind_assoc]
                congr 1
                funext p
                rw [Option.bind_assoc]
                congr 1
                funext i
                cases p.2.2[i]? with
                | none => rfl
                | some s =>
                  cases s with
                  | ow d ys =>
                    cases d with
                    | false =>
                      simp only
                      rw [evTopK_eq, Option.bind_assoc]
                      congr 1
                      funext q
                      cases q.2.2[i]? with
                      | none => rfl
                      | some s =>
                        cases s with
                        | ow d xs =>
                          cases d with
                          | false =>
                            unfold setIx
                            cases q.1 with
                            | int j => cases hx : ixN xs.length j <;> (simp only [hx]; rfl)
                            | _ => rfl
                          | true => rfl
                        | _ => rfl
                    | true =>
                      simp only
                      rw [evTopK_eq, Option.bind_assoc]
                      congr 1
                      funext q
                      cases q.2.2[i]? with
                      | none => rfl
                      | some s =>
                        cases s with
                        | ow d xs =>
                          cases d with
                          | false => rfl
                          | true => cases hx : dSet xs q.1 p.1 <;> (simp only [hx]; rfl)
                        | _ => rfl
                  | _ => rfl
            | _ => rfl
          | _ => rfl
    | Expr e pos =>
      cases e with
      | Call fn args kws cp =>
        cases fn with
        | Attribute o m ap =>
          cases o with
          | Name x px =>
            cases kws with
            | cons _ _ => rfl
            | nil =>
              simp only [exK, exS]
              split
              · rfl
              · rw [Option.bind_assoc]
                congr 1
                funext i
                cases hs : σ[i]? with
                | none => rfl
                | some s =>
                  cases s with
                  | ow d ys =>
                   cases d with
                   | true => rfl
                   | false =>
                    simp only
                    split
                    · cases args with
                      | nil => rfl
                      | cons a args =>
                        cases args with
                        | cons _ _ => rfl
                        | nil =>
                          simp only
                          split
                          · rfl
                          · rw [evTopK_eq, Option.bind_assoc]
                            congr 1
                            funext p
                            cases p.2.2[i]? with
                            | none => rfl
                            | some s =>
                              cases s with
                              | ow d xs =>
                                cases d with
                                | true => rfl
                                | false =>
                                  simp only
                                  unfold pushO
                                  split <;> rfl
                              | _ => rfl
                    · split
                      · cases args with
                        | cons _ _ => rfl
                        | nil =>
                          simp only
                          unfold popO
                          split <;> rfl
                      · rfl
                  | _ => rfl
          | _ => rfl
        | _ => rfl
      | _ => rfl
    | If e a b pos =>
      simp only [exK, exS]
      rw [Option.bind_assoc]
      congr 1
      funext t
      cases t with
      | true =>
        simp only [if_true]
        rw [IL a]
        cases exL (exS T N M W sc n) a σ with
        | none => rfl
        | some fl => cases fl <;> rfl
      | false =>
        simp only [Bool.false_eq_true, if_false]
        rw [IL b]
        cases exL (exS T N M W sc n) b σ with
        | none => rfl
        | some fl => cases fl <;> rfl
    | While e a orelse pos =>
      cases orelse with
      | cons _ _ => rfl
      | nil =>
        simp only [exK, exS]
        exact whK_eq (fun σ k kb kc => IL a σ k kb kc) k kb kc W _
    | For tg it a orelse pos =>
      cases orelse with
      | cons _ _ => rfl
      | nil =>
        simp only [exK, exS]
        rw [evItrK_eq, Option.bind_assoc]
        congr 1
        funext p
        exact forK_eq (fun σ k kb kc => IL a σ k kb kc) (fun x σ k => by rw [updTK_eq]; cases updT N sc (fun _ => true) tg x <;> rfl) k kb kc p.1 _
    | _ => rfl
/-- a whole def -/
def runK (p : Pg) (T : Tb) (fd : FD) (xs : List PV) : Out := if xs.length = fd.ps.length then exLK (exK (T.wg fd.gen) fd.N p.M p.W fd.sc p.D) fd.body (startF fd.N xs) (fun _ => some (.non, false)) (fun _ => none) (fun _ => none) else none
theorem runK_eq {p : Pg} {d : Nat} {g : Str} {fd : FD} (h : p.defs g = some fd) (xs : List PV) : run p (d + 1) g xs = runK p (tbOf p (run p d)) fd xs := by
  have e : run p (d + 1) g xs = runB p (tbOf p (run p d)) fd xs := by
    show (match p.defs g with | none => none | some fd => runB p (tbOf p (run p d)) fd xs) = _
    rw [h]
  rw [e]
  generalize tbOf p (run p d) = T
  unfold runB runK
  split
  · rw [exLK_eq fun s _ σ k kb kc => exK_eq _ _ _ _ _ _ σ s k kb kc]
    cases exL (exS (T.wg fd.gen) fd.N p.M p.W fd.sc p.D) fd.body (startF fd.N xs) with
    | none => rfl
    | some fl => cases fl <;> rfl
  · rfl

/-! ### loops over states -/
def forC {S : Type} (step : PV → S → (S → Out) → (S → Out) → Out) (k : S → Out) : List PV → S → Out
  | [], s => k s
  | x :: r, s => step x s (fun s => forC step k r s) k
def whC {S : Type} (test : S → Option Bool) (step : S → (S → Out) → (S → Out) → Out) (k : S → Out) : Nat → S → Out
  | 0, _ => none
  | w + 1, s => (test s).bind fun b => if b then step s (fun s => whC test step k w s) k else k s
theorem forK_emb {S : Type} (emb : S → Fm) {step : PV → S → (S → Out) → (S → Out) → Out} {cl : Fm → Fm} {bd : PV → Fm → Kt → Out} {body : Fm → Kt → Kt → Kt → Out} {k : Kt} {k' : S → Out}
    (h : ∀ x s (k1 k2 : Kt), bd x (emb s) (fun σ1 => body σ1 (fun σ => k1 (cl σ)) (fun σ => k2 (cl σ)) (fun σ => k1 (cl σ))) = step x s (fun s => k1 (emb s)) (fun s => k2 (emb s)))
    (hk : ∀ s, k (emb s) = k' s) : ∀ xs s, forK cl bd body k xs (emb s) = forC step k' xs s
  | [], s => hk s
  | x :: r, s => by
    unfold forK forC
    rw [h x s (fun σ => forK cl bd body k r σ) k]
    congr 1
    · funext s
      exact forK_emb emb h hk r s
    · funext s
      exact hk s
theorem whK_emb {S : Type} (emb : S → Fm) {tst : S → Option Bool} {step : S → (S → Out) → (S → Out) → Out} {cl : Fm → Fm} {test : Fm → Option Bool} {body : Fm → Kt → Kt → Kt → Out} {k : Kt} {k' : S → Out}
    (ht : ∀ s, test (emb s) = tst s)
    (h : ∀ s (k1 k2 : Kt), body (emb s) (fun σ => k1 (cl σ)) (fun σ => k2 (cl σ)) (fun σ => k1 (cl σ)) = step s (fun s => k1 (emb s)) (fun s => k2 (emb s)))
    (hk : ∀ s, k (emb s) = k' s) : ∀ w s, whK cl test body k w (emb s) = whC tst step k' w s
  | 0, s => rfl
  | w + 1, s => by
    unfold whK whC
    rw [ht]
    congr 1
    funext b
    cases b with
    | false => exact hk s
    | true =>
      simp only [if_true]
      rw [h s (fun σ => whK cl test body k w σ) k]
      congr 1
      · funext s
        exact whK_emb emb ht h hk w s
      · funext s
        exact hk s

/-! ### pieces of a block -/
theorem runK_pos {p : Pg} {T : Tb} {fd : FD} {xs : List PV} (h : xs.length = fd.ps.length) : runK p T fd xs = exLK (exK (T.wg fd.gen) fd.N p.M p.W fd.sc p.D) fd.body (startF fd.N xs) (fun _ => some (.non, false)) (fun _ => none) (fun _ => none) := if_pos h
/-- what is behind, once -/
def jn {S : Type} (R : S → Out) (A : (S → Out) → Out) : Out := A R
theorem exLK_app {f : Fm → Stmt → Kt → Kt → Kt → Out} : ∀ (l r : List Stmt) (σ : Fm) (k kb kc : Kt), exLK f (l ++ r) σ k kb kc = exLK f l σ (fun σ' => exLK f r σ' k kb kc) kb kc
  | [], r, σ, k, kb, kc => rfl
  | s :: l, r, σ, k, kb, kc => by
    show f σ s (fun σ' => exLK f (l ++ r) σ' k kb kc) kb kc = f σ s _ kb kc
    congr 1
    funext σ'
    exact exLK_app l r σ' k kb kc
theorem cut (n : Nat) {S : Type} {f : Fm → Stmt → Kt → Kt → Kt → Out} {l : List Stmt} {σ : Fm} {k kb kc : Kt} {A : (S → Out) → Out} {R : S → Out} (emb : S → Fm)
    (hs : ∀ k1 : Kt, exLK f (l.take n) σ k1 kb kc = A (fun s => k1 (emb s))) (hr : ∀ s, exLK f (l.drop n) (emb s) k kb kc = R s) : exLK f l σ k kb kc = jn R A := by
  have := exLK_app (f := f) (l.take n) (l.drop n) σ k kb kc
  rw [List.take_append_drop] at this
  rw [this, hs]
  unfold jn
  congr 1
  funext s
  exact hr s
theorem bc {α β : Type} {o : Option α} {f g : α → Option β} (h : ∀ x, f x = g x) : Option.bind o f = Option.bind o g := by
  congr 1
  funext x
  exact h x
theorem ic {α : Type} {t : Bool} {a b c d : α} (h1 : a = c) (h2 : b = d) : (if t = true then a else b) = if t = true then c else d := by rw [h1, h2]
theorem forP {T : Tb} {N : List Str} {M W : Nat} {sc : Scope} {n : Nat} {tg it : PySem.Expr} {body : List Stmt} {pos : Pos} {σ : Fm} {k kb kc : Kt} {S : Type} {I : Option (List PV)} {step : PV → S → (S → Out) → (S → Out) → Out} {k' : S → Out}
    (emb : S → Fm) (init : S) (σ1 : Fm) (embx : PV → S → Fm)
    (hI : ∀ K : List PV → Fm → Out, evItrK N (evI T N M sc) σ it K = I.bind fun xs => K xs σ1)
    (he : clr (T.fgt pos.line pos.col) σ1 = emb init)
    (hx : ∀ x s (K : Kt), updTK N sc (fun _ => true) tg x (fun us => K (appF us (emb s))) = K (embx x s))
    (hk : ∀ s, k (emb s) = k' s)
    (h : ∀ x s (k1 k2 : Kt), exLK (exK T N M W sc n) body (embx x s) (fun σ => k1 (clr (T.fgt pos.line pos.col) σ)) (fun σ => k2 (clr (T.fgt pos.line pos.col) σ)) (fun σ => k1 (clr (T.fgt pos.line pos.col) σ)) = step x s (fun s => k1 (emb s)) (fun s => k2 (emb s))) :
    exLK (exK T N M W sc (n + 1)) [.For tg it body [] pos] σ k kb kc = I.bind fun xs => forC step k' xs init := by
  have e : exLK (exK T N M W sc (n + 1)) [.For tg it body [] pos] σ k kb kc = evItrK N (evI T N M sc) σ it fun xs σ1 => forK (clr (T.fgt pos.line pos.col)) (fun x σ k => updTK N sc (fun _ => true) tg x fun us => k (appF us σ)) (fun σ => exLK (exK T N M W sc n) body σ) k xs (clr (T.fgt pos.line pos.col) σ1) := by
    simp only [exLK, exK]
  rw [e, hI]
  congr 1
  funext xs
  show forK _ _ _ _ xs (clr (T.fgt pos.line pos.col) σ1) = _
  rw [he]
  refine forK_emb emb (fun x s k1 k2 => ?_) hk xs init
  show updTK N sc (fun _ => true) tg x (fun us => exLK (exK T N M W sc n) body (appF us (emb s)) (fun σ => k1 (clr (T.fgt pos.line pos.col) σ)) (fun σ => k2 (clr (T.fgt pos.line pos.col) σ)) (fun σ => k1 (clr (T.fgt pos.line pos.col) σ))) = _
  rw [← h x s k1 k2]
  exact hx x s fun σ => exLK (exK T N M W sc n) body σ (fun σ => k1 (clr (T.fgt pos.line pos.col) σ)) (fun σ => k2 (clr (T.fgt pos.line pos.col) σ)) (fun σ => k1 (clr (T.fgt pos.line pos.col) σ))
theorem forPt (m : Nat) {T : Tb} {N : List Str} {M W : Nat} {sc : Scope} {n : Nat} {tg it : PySem.Expr} {body : List Stmt} {pos : Pos} {σ : Fm} {k kb kc : Kt} {S : Type} {I : Option (List PV)} {step : List PV → S → (S → Out) → (S → Out) → Out} {k' : S → Out}
    (emb : S → Fm) (init : S) (σ1 : Fm) (embx : List PV → S → Fm)
    (hI : ∀ K : List PV → Fm → Out, evItrK N (evI T N M sc) σ it K = I.bind fun xs => K xs σ1)
    (he : clr (T.fgt pos.line pos.col) σ1 = emb init)
    (hx : ∀ x s (K : Kt), updTK N sc (fun _ => true) tg x (fun us => K (appF us (emb s))) = (unT m x).bind fun vs => K (embx vs s))
    (hk : ∀ s, k (emb s) = k' s)
    (h : ∀ x s (k1 k2 : Kt), exLK (exK T N M W sc n) body (embx x s) (fun σ => k1 (clr (T.fgt pos.line pos.col) σ)) (fun σ => k2 (clr (T.fgt pos.line pos.col) σ)) (fun σ => k1 (clr (T.fgt pos.line pos.col) σ)) = step x s (fun s => k1 (emb s)) (fun s => k2 (emb s))) :
    exLK (exK T N M W sc (n + 1)) [.For tg it body [] pos] σ k kb kc = I.bind fun xs => forC (fun x s k1 k2 => (unT m x).bind fun vs => step vs s k1 k2) k' xs init := by
  have e : exLK (exK T N M W sc (n + 1)) [.For tg it body [] pos] σ k kb kc = evItrK N (evI T N M sc) σ it fun xs σ1 => forK (clr (T.fgt pos.line pos.col)) (fun x σ k => updTK N sc (fun _ => true) tg x fun us => k (appF us σ)) (fun σ => exLK (exK T N M W sc n) body σ) k xs (clr (T.fgt pos.line pos.col) σ1) := by
    simp only [exLK, exK]
  rw [e, hI]
  congr 1
  funext xs
  show forK _ _ _ _ xs (clr (T.fgt pos.line pos.col) σ1) = _
  rw [he]
  refine forK_emb emb (fun x s k1 k2 => ?_) hk xs init
  have := hx x s fun σ => exLK (exK T N M W sc n) body σ (fun σ => k1 (clr (T.fgt pos.line pos.col) σ)) (fun σ => k2 (clr (T.fgt pos.line pos.col) σ)) (fun σ => k1 (clr (T.fgt pos.line pos.col) σ))
  refine Eq.trans this ?_
  congr 1
  funext vs
  exact h vs s k1 k2
theorem whP {T : Tb} {N : List Str} {M W : Nat} {sc : Scope} {n : Nat} {c : PySem.Expr} {body : List Stmt} {pos : Pos} {σ : Fm} {k kb kc : Kt} {S : Type} {tst : S → Option Bool} {step : S → (S → Out) → (S → Out) → Out} {k' : S → Out}
    (emb : S → Fm) (init : S)
    (he : clr (T.fgt pos.line pos.col) σ = emb init)
    (ht : ∀ s, evTst (evT T N M sc) (emb s) c = tst s)
    (hk : ∀ s, k (emb s) = k' s)
    (h : ∀ s (k1 k2 : Kt), exLK (exK T N M W sc n) body (emb s) (fun σ => k1 (clr (T.fgt pos.line pos.col) σ)) (fun σ => k2 (clr (T.fgt pos.line pos.col) σ)) (fun σ => k1 (clr (T.fgt pos.line pos.col) σ)) = step s (fun s => k1 (emb s)) (fun s => k2 (emb s))) :
    exLK (exK T N M W sc (n + 1)) [.While c body [] pos] σ k kb kc = whC tst step k' W init := by
  show whK _ _ _ _ W (clr (T.fgt pos.line pos.col) σ) = _
  rw [he]
  exact whK_emb emb ht h hk W init
theorem ifP {T : Tb} {N : List Str} {M W : Nat} {sc : Scope} {n : Nat} {c : PySem.Expr} {a b : List Stmt} {pos : Pos} {σ : Fm} {k kb kc : Kt} {tt : Option Bool} {A B : Out}
    (ht : evTst (evT T N M sc) σ c = tt)
    (ha : exLK (exK T N M W sc n) a σ (fun σ => k (clr (T.fgt pos.line pos.col) σ)) kb kc = A)
    (hb : exLK (exK T N M W sc n) b σ (fun σ => k (clr (T.fgt pos.line pos.col) σ)) kb kc = B) :
    exLK (exK T N M W sc (n + 1)) [.If c a b pos] σ k kb kc = tt.bind fun t => if t then A else B := by
  rw [← ht, ← ha, ← hb]
  rfl
/-! ### short names for the mirrors -/
def op2 (op : Operator) (x y : PV) : Out := (binop op x y).bind fun z => sh z.1
def ix (x y : PV) : Out := (getIx x y).bind fun z => sh z.1
def sl (x : PV) (l h : Option Int) : Out := (getSl x l h).bind fun z => sh z.1
def cmpV (op : CmpOp) (x y : PV) : Out := (cmp op x y).bind fun c => sh (.bl c)
def insV (ty : String) (x : PV) : Out := (clsIs ty x).bind fun b => sh (.bl b)
def cl1 (r : Out) : Out := (fstO r).bind fun x => some (x, false)
def cl2 (r : Out) : Out := (ownO r).bind fun ys => some (.lst ys, true)
end Pv

/-! Part Q: what the short names tell; fractions; sizes -/
namespace Pv
open PySem L2

/-! ### steps -/
/-- told by computing, but no rule that simp takes for one that computes -/
theorem nr {α : Type} {a b : α} (h : a = b) : a = b := h
@[simp] theorem ob_some {α β : Type} {x : α} {f : α → Option β} : (some x).bind f = f x := nr rfl
@[simp] theorem om_some {α β : Type} {x : α} {f : α → β} : (some x).map f = some (f x) := nr rfl
@[simp] theorem sh_bind {β : Type} {x : PV} {f : PV × Bool → Option β} : (sh x).bind f = f (x, false) := nr rfl
@[simp] theorem sh_map {β : Type} {x : PV} {f : PV × Bool → β} : (sh x).map f = some (f (x, false)) := nr rfl
theorem sh_some {x : PV} : some (x, false) = sh x := nr rfl
@[simp] theorem cl1_sh {x : PV} : cl1 (sh x) = sh x := nr rfl
@[simp] theorem cl1_some {x : PV} {o : Bool} : cl1 (some (x, o)) = sh x := nr rfl
@[simp] theorem cl2_own {xs : List PV} : cl2 (some (.lst xs, true)) = some (.lst xs, true) := nr rfl
@[simp] theorem ownO_own {xs : List PV} : ownO (some (.lst xs, true)) = some xs := nr rfl
@[simp] theorem jn_def {S : Type} {R : S → Out} {A : (S → Out) → Out} : jn R A = A R := nr rfl
@[simp] theorem op2_add {i j : Int} : op2 .Add (.int i) (.int j) = sh (.int (i + j)) := nr rfl
@[simp] theorem op2_sub {i j : Int} : op2 .Sub (.int i) (.int j) = sh (.int (i - j)) := nr rfl
theorem op2_mul {i j : Int} (h : mulOk i j = true) : op2 .Mult (.int i) (.int j) = sh (.int (i * j)) := by
  show (if mulOk i j then sh (.int (i * j)) else none).bind (fun z => sh z.1) = _
  rw [if_pos h]
  rfl
theorem op2_div {i j : Int} (h : divOk j = true) : op2 .FloorDiv (.int i) (.int j) = sh (.int (i.fdiv j)) := by
  show (if divOk j then sh (.int (i.fdiv j)) else none).bind (fun z => sh z.1) = _
  rw [if_pos h]
  rfl
theorem op2_mod {i j : Int} (h : j ≠ 0) : op2 .Mod (.int i) (.int j) = sh (.int (i.fmod j)) := by
  show (if j = 0 then none else sh (.int (i.fmod j))).bind (fun z => sh z.1) = _
  rw [if_neg h]
  rfl
@[simp] theorem op2_mods {i j : Int} (h : 0 < j) : op2 .Mod (.int i) (.int j) = sh (.int (i % j)) := by
  rw [op2_mod (by omega), Int.fmod_eq_emod_of_nonneg _ (by omega)]
theorem op2_divs {i j : Int} (h : 0 < j) (h2 : j < 2 ^ 64) : op2 .FloorDiv (.int i) (.int j) = sh (.int (i / j)) := by
  rw [op2_div, Int.fdiv_eq_ediv_of_nonneg _ (by omega)]
  unfold divOk
  simp only [Bool.and_eq_true, decide_eq_true_eq]
  refine ⟨by omega, ?_⟩
  have : j.natAbs < 2 ^ 64 := by omega
  have := (Nat.log2_lt (n := j.natAbs) (k := 64) (by omega)).mpr this
  omega
@[simp] theorem cmp_lt {i j : Int} : cmp .Lt (.int i) (.int j) = some (decide (i < j)) := nr rfl
@[simp] theorem cmp_le {i j : Int} : cmp .LtE (.int i) (.int j) = some (decide (i ≤ j)) := nr rfl
@[simp] theorem cmp_gt {i j : Int} : cmp .Gt (.int i) (.int j) = some (decide (j < i)) := nr rfl
@[simp] theorem cmp_ge {i j : Int} : cmp .GtE (.int i) (.int j) = some (decide (j ≤ i)) := nr rfl
@[simp] theorem cmpV_def {op : CmpOp} {x y : PV} : cmpV op x y = (cmp op x y).bind fun c => sh (.bl c) := nr rfl
@[simp] theorem eqD_int {i j : Int} : eqD (.int i) (.int j) = some (decide (i = j)) := by
  unfold eqD
  rw [if_pos (by rfl)]
  simp only [PV.toD, PyData.eqv]
  rfl
@[simp] theorem cmp_eq {x y : PV} : cmp .Eq x y = eqD x y := by cases x <;> cases y <;> rfl
@[simp] theorem cmp_ne {x y : PV} : cmp .NotEq x y = (eqD x y).map (!·) := by cases x <;> cases y <;> rfl
@[simp] theorem truth_bl {b : Bool} : truth (.bl b) = some b := nr rfl
@[simp] theorem truth_int {i : Int} : truth (.int i) = some (i != 0) := nr rfl
@[simp] theorem truth_lst {xs : List PV} : truth (.lst xs) = some (!xs.isEmpty) := nr rfl
@[simp] theorem truth_tup {xs : List PV} : truth (.tup xs) = some (!xs.isEmpty) := nr rfl
@[simp] theorem truth_non : truth .non = some false := nr rfl
@[simp] theorem blOf_bl {b : Bool} : blOf (.bl b) = some b := nr rfl
@[simp] theorem neg1_int {i : Int} : neg1 (.int i) = sh (.int (-i)) := nr rfl
@[simp] theorem not1_bl {b : Bool} : not1 (.bl b) = sh (.bl (!b)) := nr rfl
theorem k_int_int : kitB "int" "int" = some true := by decide +kernel
theorem k_bool_int : kitB "bool" "int" = some true := by decide +kernel
theorem k_int_bool : kitB "int" "bool" = some false := by decide +kernel
theorem k_bool_bool : kitB "bool" "bool" = some true := by decide +kernel
theorem k_tup_tup : kitB "tuple" "tuple" = some true := by decide +kernel
theorem k_lst_lst : kitB "list" "list" = some true := by decide +kernel
theorem k_tup_lst : kitB "tuple" "list" = some false := by decide +kernel
theorem k_lst_tup : kitB "list" "tuple" = some false := by decide +kernel
theorem k_int_tup : kitB "int" "tuple" = some false := by decide +kernel
theorem k_int_lst : kitB "int" "list" = some false := by decide +kernel
theorem k_non_tup : kitB "NoneType" "tuple" = some false := by decide +kernel
theorem k_non_int : kitB "NoneType" "int" = some false := by decide +kernel
@[simp] theorem ins_ii {i : Int} : insV "int" (.int i) = sh (.bl true) := by simp only [insV, clsIs, k_int_int]; rfl
@[simp] theorem ins_bi {i : Bool} : insV "int" (.bl i) = sh (.bl true) := by simp only [insV, clsIs, k_bool_int]; rfl
@[simp] theorem ins_ib {i : Int} : insV "bool" (.int i) = sh (.bl false) := by simp only [insV, clsIs, k_int_bool]; rfl
@[simp] theorem ins_bb {i : Bool} : insV "bool" (.bl i) = sh (.bl true) := by simp only [insV, clsIs, k_bool_bool]; rfl
@[simp] theorem ins_tt {x : List PV} : insV "tuple" (.tup x) = sh (.bl true) := by simp only [insV, clsIs, k_tup_tup]; rfl
@[simp] theorem ins_ll {x : List PV} : insV "list" (.lst x) = sh (.bl true) := by simp only [insV, clsIs, k_lst_lst]; rfl
@[simp] theorem ins_tl {x : List PV} : insV "list" (.tup x) = sh (.bl false) := by simp only [insV, clsIs, k_tup_lst]; rfl
@[simp] theorem ins_lt {x : List PV} : insV "tuple" (.lst x) = sh (.bl false) := by simp only [insV, clsIs, k_lst_tup]; rfl
@[simp] theorem ins_nt : insV "tuple" .non = sh (.bl false) := by simp only [insV, clsIs, k_non_tup]; rfl
@[simp] theorem len_lst {xs : List PV} : bltV "len" [.lst xs] = sh (.int xs.length) := nr rfl
@[simp] theorem len_tup {xs : List PV} : bltV "len" [.tup xs] = sh (.int xs.length) := nr rfl
@[simp] theorem abs_int {i : Int} : bltV "abs" [.int i] = sh (.int i.natAbs) := by
  show sh (.int (if i < 0 then -i else i)) = _
  congr 2
  omega
@[simp] theorem int_int {i : Int} : bltV "int" [.int i] = sh (.int i) := nr rfl
@[simp] theorem list_lst {xs : List PV} : bltV "list" [.lst xs] = some (.lst xs, true) := nr rfl
@[simp] theorem list_tup {xs : List PV} : bltV "list" [.tup xs] = some (.lst xs, true) := nr rfl
@[simp] theorem tuple_lst {xs : List PV} : bltV "tuple" [.lst xs] = sh (.tup xs) := nr rfl
@[simp] theorem tuple_tup {xs : List PV} : bltV "tuple" [.tup xs] = sh (.tup xs) := nr rfl
theorem atI_nat {xs : List PV} {i : Nat} {x : PV} (h : xs[i]? = some x) : atI xs i = some x := by
  have hl : i < xs.length := (List.getElem?_eq_some_iff.mp h).1
  unfold atI ixN
  rw [if_pos (by omega), if_pos (by omega)]
  exact h
theorem ixL {xs : List PV} {i : Nat} {x : PV} (h : xs[i]? = some x) : ix (.lst xs) (.int i) = sh x := by
  show (((atI xs i).bind sh).bind fun z => sh z.1) = _
  rw [atI_nat h]
  rfl
theorem ixT {xs : List PV} {i : Nat} {x : PV} (h : xs[i]? = some x) : ix (.tup xs) (.int i) = sh x := by
  show (((atI xs i).bind sh).bind fun z => sh z.1) = _
  rw [atI_nat h]
  rfl
@[simp] theorem ix_t0 {a : PV} {l : List PV} : ix (.tup (a :: l)) (.int 0) = sh a := ixT (i := 0) rfl
@[simp] theorem ix_l0 {a : PV} {l : List PV} : ix (.lst (a :: l)) (.int 0) = sh a := ixL (i := 0) rfl
@[simp] theorem ix_t1 {a b : PV} {l : List PV} : ix (.tup (a :: b :: l)) (.int 1) = sh b := ixT (i := 1) rfl
@[simp] theorem ix_l1 {a b : PV} {l : List PV} : ix (.lst (a :: b :: l)) (.int 1) = sh b := ixL (i := 1) rfl
@[simp] theorem ix_t2 {a b c : PV} {l : List PV} : ix (.tup (a :: b :: c :: l)) (.int 2) = sh c := ixT (i := 2) rfl
@[simp] theorem ix_l2 {a b c : PV} {l : List PV} : ix (.lst (a :: b :: c :: l)) (.int 2) = sh c := ixL (i := 2) rfl
@[simp] theorem getD0 {a : PV} {l : List PV} : (a :: l).getD 0 .non = a := nr rfl
@[simp] theorem unT2 {a b : PV} : unT 2 (.tup [a, b]) = some [a, b] := nr rfl
@[simp] theorem unT3 {a b c : PV} : unT 3 (.tup [a, b, c]) = some [a, b, c] := nr rfl

/-! ### lists by a function -/
def rl (n : Nat) (g : Nat → PV) : List PV := (List.range n).map g
@[simp] theorem rl_len {n : Nat} {g : Nat → PV} : (rl n g).length = n := by simp [rl]
theorem rl_get {n i : Nat} {g : Nat → PV} (h : i < n) : (rl n g)[i]? = some (g i) := by simp [rl, h]
@[simp] theorem rl_zero {g : Nat → PV} : rl 0 g = [] := nr rfl
theorem rl_succ {n : Nat} {g : Nat → PV} : rl n g ++ [g n] = rl (n + 1) g := by simp [rl, List.range_succ]
theorem rl_congr {n : Nat} {f g : Nat → PV} (h : ∀ k < n, f k = g k) : rl n f = rl n g := by
  unfold rl
  exact List.map_congr_left fun k hk => h k (List.mem_range.mp hk)
theorem ix_rlL {n : Nat} {g : Nat → PV} {i : Nat} (h : i < n) : ix (.lst (rl n g)) (.int i) = sh (g i) := ixL (rl_get h)
theorem ix_rlT {n : Nat} {g : Nat → PV} {i : Nat} (h : i < n) : ix (.tup (rl n g)) (.int i) = sh (g i) := ixT (rl_get h)
theorem ix_rlI {n : Nat} {g : Nat → PV} {i : Int} (h : 0 ≤ i) (h2 : i < n) : ix (.lst (rl n g)) (.int i) = sh (g i.toNat) := by
  obtain ⟨k, rfl⟩ := Int.eq_ofNat_of_zero_le h
  exact ix_rlL (by omega)
theorem pushO_ok {xs : List PV} {v : PV} (h : xs.length < 1000000) : pushO xs v = some (xs ++ [v]) := by
  exact if_pos h
theorem push_rl {n : Nat} {g : Nat → PV} {v : PV} (h : n < 1000000) (hv : v = g n) : pushO (rl n g) v = some (rl (n + 1) g) := by
  rw [pushO_ok (by simpa using h), hv, rl_succ]
theorem seqOf_lst {xs : List PV} (h : xs.length ≤ 1000000) : seqOf (.lst xs) = some xs := by
  exact if_pos h
theorem seqOf_tup {xs : List PV} (h : xs.length ≤ 1000000) : seqOf (.tup xs) = some xs := by
  exact if_pos h
theorem rng1_ok {n : Nat} (h : n ≤ 1000000) : rng1 (.int n) = some (intsFrom 0 n) := by
  show (if small62 n && decide ((n : Int).toNat ≤ big) then some (intsFrom 0 (n : Int).toNat) else none) = _
  rw [if_pos]
  · rfl
  · unfold small62
    simp only [Bool.and_eq_true, decide_eq_true_eq]
    refine ⟨?_, ?_⟩
    · show n.log2 < 61
      by_cases h0 : n = 0
      · subst h0; decide
      · exact (Nat.log2_lt h0).mpr (by omega)
    · show n ≤ 1000000
      exact h
theorem intsFrom_eq : ∀ (n : Nat) (lo : Int), intsFrom lo n = (List.range n).map fun k : Nat => PV.int (lo + k)
  | 0, lo => rfl
  | n + 1, lo => by
    rw [List.range_succ_eq_map]
    simp only [intsFrom, List.map_cons, List.map_map, intsFrom_eq n (lo + 1)]
    congr 1
    · simp
    · refine List.map_congr_left fun k _ => ?_
      simp only [Function.comp]
      congr 1
      omega
theorem ints0 {n : Nat} : intsFrom 0 n = rl n fun k : Nat => .int k := by
  rw [intsFrom_eq]
  unfold rl
  simp
theorem forC_list {S : Type} {step : PV → S → (S → Out) → (S → Out) → Out} {K : S → Out} {α : Type} (em : α → PV) (nx : α → S → S) : ∀ (xs : List α) (s : S),
    (∀ x ∈ xs, ∀ s kn kb, step (em x) s kn kb = kn (nx x s)) → forC step K (xs.map em) s = K (xs.foldl (fun s x => nx x s) s)
  | [], s, h => rfl
  | x :: xs, s, h => by
    show step (em x) s (fun s => forC step K (xs.map em) s) K = _
    rw [h x (List.mem_cons_self ..)]
    exact forC_list em nx xs (nx x s) fun y hy => h y (List.mem_cons_of_mem _ hy)
/-- a loop over range(n) whose state behind k turns is known -/
theorem forC_from {S : Type} {step : PV → S → (S → Out) → (S → Out) → Out} {K : S → Out} (inv : Nat → S) : ∀ (n lo : Nat),
    (∀ k, lo ≤ k → k < lo + n → ∀ kn kb, step (.int k) (inv k) kn kb = kn (inv (k + 1))) → forC step K (intsFrom lo n) (inv lo) = K (inv (lo + n))
  | 0, lo, h => rfl
  | n + 1, lo, h => by
    show step (.int lo) (inv lo) (fun s => forC step K (intsFrom ((lo : Int) + 1) n) s) K = _
    rw [h lo (Nat.le_refl _) (by omega)]
    have := forC_from (step := step) (K := K) inv n (lo + 1) fun k a b => h k (by omega) (by omega)
    rw [show ((lo : Int) + 1) = ((lo + 1 : Nat) : Int) by omega, this]
    congr 2
    omega
theorem forC_rng {S : Type} {step : PV → S → (S → Out) → (S → Out) → Out} {K : S → Out} {s0 : S} (n : Nat) (inv : Nat → S) (h0 : s0 = inv 0)
    (h : ∀ k, k < n → ∀ kn kb, step (.int k) (inv k) kn kb = kn (inv (k + 1))) : forC step K (intsFrom 0 n) s0 = K (inv n) := by
  have := forC_from (step := step) (K := K) inv n 0 fun k _ b => h k (by omega)
  rw [h0]
  simpa using this
/-- .. that may be left with an answer of its own: all turns pass, or the answer is there -/
theorem compM_rl {step : PV → Option (Option PV)} {em : Nat → PV} {g : Nat → PV} (n : Nat) (h : ∀ k < n, step (em k) = some (some (g k))) : compM step (rl n em) = some (rl n g) := by
  unfold rl
  have : ∀ (l : List Nat), (∀ k ∈ l, step (em k) = some (some (g k))) → compM step (l.map em) = some (l.map g) := by
    intro l
    induction l with
    | nil => intro _; rfl
    | cons x l ih =>
      intro hl
      simp only [List.map_cons, compM]
      rw [hl x (List.mem_cons_self ..), ih fun k hk => hl k (List.mem_cons_of_mem _ hk)]
      rfl
  exact this _ fun k hk => h k (List.mem_range.mp hk)
theorem compM_map {α : Type} {step : PV → Option (Option PV)} {em : α → PV} {g : α → PV} : ∀ (l : List α), (∀ x ∈ l, step (em x) = some (some (g x))) → compM step (l.map em) = some (l.map g)
  | [], _ => rfl
  | x :: l, h => by
    simp only [List.map_cons, compM]
    rw [h x (List.mem_cons_self ..), compM_map l fun k hk => h k (List.mem_cons_of_mem _ hk)]
    rfl

/-! ### equality of what is alike -/
mutual
def PV.pl : PV → Bool
  | .non => true | .bl _ => false | .int _ => true | .str _ => false | .dct _ => false
  | .tup xs => PV.pls xs
  | .lst xs => PV.pls xs
def PV.pls : List PV → Bool
  | [] => true
  | x :: xs => PV.pl x && PV.pls xs
end
mutual
def PV.dp : PV → Nat
  | .tup xs => PV.dps xs + 1
  | .lst xs => PV.dps xs + 1
  | _ => 0
def PV.dps : List PV → Nat
  | [] => 0
  | x :: xs => max (PV.dp x) (PV.dps xs)
end
mutual
theorem lay_pl : ∀ x : PV, x.pl = true → x.toD.canLay0 = true ∧ x.toD.depth = x.dp
  | .non, _ => ⟨by simp [PV.toD, PyData.canLay0], by simp [PV.toD, PyData.depth, PV.dp]⟩
  | .int _, _ => ⟨by simp [PV.toD, PyData.canLay0], by simp [PV.toD, PyData.depth, PV.dp]⟩
  | .tup xs, h => by
    have := lay_pls xs (by simpa [PV.pl] using h)
    exact ⟨by simp [PV.toD, PyData.canLay0, this.1], by simp [PV.toD, PyData.depth, PV.dp, this.2]⟩
  | .lst xs, h => by
    have := lay_pls xs (by simpa [PV.pl] using h)
    exact ⟨by simp [PV.toD, PyData.canLay0, this.1], by simp [PV.toD, PyData.depth, PV.dp, this.2]⟩
  | .bl _, h => by simp [PV.pl] at h
  | .str _, h => by simp [PV.pl] at h
  | .dct _, h => by simp [PV.pl] at h
theorem lay_pls : ∀ xs : List PV, PV.pls xs = true → PyData.canLayAll0 (PV.toDs xs) = true ∧ PyData.depthAll (PV.toDs xs) = PV.dps xs
  | [], _ => ⟨by simp [PV.toDs, PyData.canLayAll0], by simp [PV.toDs, PyData.depthAll, PV.dps]⟩
  | x :: xs, h => by
    have h' : x.pl = true ∧ PV.pls xs = true := by simpa [PV.pls] using h
    have h1 := lay_pl x h'.1
    have h2 := lay_pls xs h'.2
    exact ⟨by simp [PV.toDs, PyData.canLayAll0, h1.1, h2.1], by simp [PV.toDs, PyData.depthAll, PV.dps, h1.2, h2.2]⟩
end
mutual
theorem eqv_pl : ∀ x y : PV, x.pl = true → y.pl = true → (PyData.eqv x.toD y.toD = true ↔ x = y)
  | .non, y, _, hy => by cases y <;> simp [PV.toD, PyData.eqv, PV.pl] at hy ⊢
  | .int i, y, _, hy => by cases y <;> simp [PV.toD, PyData.eqv, PV.pl] at hy ⊢
  | .tup xs, y, hx, hy => by
    cases y with
    | tup ys =>
      have := eqv_pls xs ys (by simpa [PV.pl] using hx) (by simpa [PV.pl] using hy)
      simp [PV.toD, PyData.eqv, this]
    | _ => simp [PV.toD, PyData.eqv, PV.pl] at hy ⊢
  | .lst xs, y, hx, hy => by
    cases y with
    | lst ys =>
      have := eqv_pls xs ys (by simpa [PV.pl] using hx) (by simpa [PV.pl] using hy)
      simp [PV.toD, PyData.eqv, this]
    | _ => simp [PV.toD, PyData.eqv, PV.pl] at hy ⊢
  | .bl _, _, h, _ => by simp [PV.pl] at h
  | .str _, _, h, _ => by simp [PV.pl] at h
  | .dct _, _, h, _ => by simp [PV.pl] at h
theorem eqv_pls : ∀ xs ys : List PV, PV.pls xs = true → PV.pls ys = true → (PyData.eqvAll (PV.toDs xs) (PV.toDs ys) = true ↔ xs = ys)
  | [], ys, _, _ => by cases ys <;> simp [PV.toDs, PyData.eqvAll]
  | x :: xs, ys, hx, hy => by
    cases ys with
    | nil => simp [PV.toDs, PyData.eqvAll]
    | cons y ys =>
      have hx' : x.pl = true ∧ PV.pls xs = true := by simpa [PV.pls] using hx
      have hy' : y.pl = true ∧ PV.pls ys = true := by simpa [PV.pls] using hy
      have h1 := eqv_pl x y hx'.1 hy'.1
      have h2 := eqv_pls xs ys hx'.2 hy'.2
      simp [PV.toDs, PyData.eqvAll, h1, h2]
end
open Classical in
theorem eqD_pl {x y : PV} (hx : x.pl = true) (hy : y.pl = true) (dx : x.dp ≤ 64) (dy : y.dp ≤ 64) : eqD x y = some (decide (x = y)) := by
  unfold eqD
  obtain ⟨a1, a2⟩ := lay_pl x hx
  obtain ⟨b1, b2⟩ := lay_pl y hy
  rw [if_pos]
  · congr 1
    rw [Bool.eq_iff_iff, eqv_pl x y hx hy]
    simp
  · unfold SeqAt.shaped
    rw [a1, b1, a2, b2]
    simp [dx, dy]
theorem eqD_self {x : PV} (hx : x.pl = true) (dx : x.dp ≤ 64) : eqD x x = some true := by
  rw [eqD_pl hx hx dx dx]
  simp
theorem pls_all {xs : List PV} : PV.pls xs = true ↔ ∀ x ∈ xs, x.pl = true := by
  induction xs with
  | nil => simp [PV.pls]
  | cons x xs ih => simp [PV.pls, ih]
theorem dps_le {xs : List PV} {n : Nat} : PV.dps xs ≤ n ↔ ∀ x ∈ xs, x.dp ≤ n := by
  induction xs with
  | nil => simp [PV.dps]
  | cons x xs ih => simp only [PV.dps, List.mem_cons, forall_eq_or_imp, ← ih]; omega
end Pv

/-! Part R: fractions, their sizes, Euclid -/
namespace Pv
open PySem L2

/-! ### sizes -/
def nb (n : Nat) : Nat := n.log2 + 1
theorem lt_nb (n : Nat) : n < 2 ^ nb n := Nat.lt_log2_self
theorem nb_pos (n : Nat) : 0 < nb n := Nat.succ_pos _
theorem nb_le {n k : Nat} (h : n < 2 ^ k) (hk : 0 < k) : nb n ≤ k := by
  unfold nb
  by_cases h0 : n = 0
  · subst h0
    have : Nat.log2 0 = 0 := by decide
    omega
  · have := (Nat.log2_lt (k := k) h0).mpr h
    omega
theorem nb_mono {a b : Nat} (h : a ≤ b) : nb a ≤ nb b := nb_le (Nat.lt_of_le_of_lt h (lt_nb b)) (nb_pos b)
theorem nb_mul (a b : Nat) : nb (a * b) ≤ nb a + nb b := by
  refine nb_le ?_ (by have := nb_pos a; omega)
  rw [Nat.pow_add]
  have h1 := lt_nb a
  have h2 := lt_nb b
  exact Nat.lt_of_le_of_lt (Nat.mul_le_mul_left a (Nat.le_of_lt h2)) (Nat.mul_lt_mul_of_pos_right h1 (Nat.two_pow_pos _))
theorem nb_add (a b : Nat) : nb (a + b) ≤ max (nb a) (nb b) + 1 := by
  refine nb_le ?_ (by omega)
  rw [Nat.pow_succ]
  have h1 := lt_nb a
  have h2 := lt_nb b
  have h3 : 2 ^ nb a ≤ 2 ^ max (nb a) (nb b) := Nat.pow_le_pow_right (by omega) (by omega)
  have h4 : 2 ^ nb b ≤ 2 ^ max (nb a) (nb b) := Nat.pow_le_pow_right (by omega) (by omega)
  omega
theorem mulOk_nb {i j : Int} (h : nb i.natAbs + nb j.natAbs ≤ 1000000) : mulOk i j = true := by
  unfold nb at h
  unfold mulOk
  simp only [decide_eq_true_eq]
  omega
theorem divOk_nb {j : Int} (h0 : j ≠ 0) (h : nb j.natAbs ≤ 9000) : divOk j = true := by
  unfold nb at h
  unfold divOk
  simp only [Bool.and_eq_true, decide_eq_true_eq]
  exact ⟨h0, by omega⟩
def bz (q : Rat) : Nat := max (nb q.num.natAbs) (nb q.den)
theorem bz_num (q : Rat) : nb q.num.natAbs ≤ bz q := Nat.le_max_left ..
theorem bz_den (q : Rat) : nb q.den ≤ bz q := Nat.le_max_right ..
theorem bz_divInt {n d : Int} {k : Nat} (hn : nb n.natAbs ≤ k) (hd : nb d.natAbs ≤ k) : bz (Rat.divInt n d) ≤ k := by
  have hk : 0 < k := Nat.lt_of_lt_of_le (nb_pos _) hn
  unfold bz
  rw [Rat.num_divInt, Rat.den_divInt]
  refine Nat.max_le.mpr ⟨Nat.le_trans (nb_mono ?_) hn, ?_⟩
  · rw [Int.natAbs_ediv_of_dvd]
    · rw [Int.natAbs_mul]
      refine Nat.le_trans (Nat.div_le_self _ _) ?_
      have : d.sign.natAbs ≤ 1 := by
        rcases Int.lt_trichotomy d 0 with h | h | h
        · rw [Int.sign_eq_neg_one_of_neg h]; decide
        · rw [h]; decide
        · rw [Int.sign_eq_one_of_pos h]; decide
      calc d.sign.natAbs * n.natAbs ≤ 1 * n.natAbs := Nat.mul_le_mul_right _ this
        _ = n.natAbs := Nat.one_mul _
    · exact Int.dvd_mul_of_dvd_right (Int.gcd_dvd_right ..)
  · split
    · exact nb_le (Nat.one_lt_two_pow (by omega)) hk
    · exact Nat.le_trans (nb_mono (Nat.div_le_self _ _)) hd
theorem add_divInt (x y : Rat) : x + y = Rat.divInt (x.num * y.den + y.num * x.den) (x.den * y.den) := by
  have h1 : (x.den : Int) ≠ 0 := by have := x.den_nz; omega
  have h2 : (y.den : Int) ≠ 0 := by have := y.den_nz; omega
  have := Rat.divInt_add_divInt x.num y.num h1 h2
  rw [Rat.num_divInt_den, Rat.num_divInt_den] at this
  exact this
theorem mul_divInt (x y : Rat) : x * y = Rat.divInt (x.num * y.num) (x.den * y.den) := by
  have := Rat.divInt_mul_divInt x.num y.num (d₁ := x.den) (d₂ := y.den)
  rw [Rat.num_divInt_den, Rat.num_divInt_den] at this
  exact this
theorem sub_divInt (x y : Rat) : x - y = Rat.divInt (x.num * y.den - y.num * x.den) (x.den * y.den) := by
  have := add_divInt x (-y)
  rw [show x - y = x + -y from Rat.sub_eq_add_neg .., this]
  have h1 : (-y).num = - y.num := rfl
  have h2 : (-y).den = y.den := rfl
  rw [h1, h2]
  congr 1
  rw [Int.neg_mul]
  omega
theorem nb_mulI (a b : Int) : nb (a * b).natAbs ≤ nb a.natAbs + nb b.natAbs := by rw [Int.natAbs_mul]; exact nb_mul ..
theorem nb_addI (a b : Int) : nb (a + b).natAbs ≤ max (nb a.natAbs) (nb b.natAbs) + 1 := Nat.le_trans (nb_mono (Int.natAbs_add_le ..)) (nb_add ..)
theorem nb_subI (a b : Int) : nb (a - b).natAbs ≤ max (nb a.natAbs) (nb b.natAbs) + 1 := Nat.le_trans (nb_mono (Int.natAbs_sub_le ..)) (nb_add ..)
theorem bz_add (x y : Rat) : bz (x + y) ≤ bz x + bz y + 1 := by
  rw [add_divInt]
  have a1 := bz_num x
  have a2 := bz_den x
  have b1 := bz_num y
  have b2 := bz_den y
  refine bz_divInt ?_ ?_
  · refine Nat.le_trans (nb_addI ..) ?_
    have := nb_mulI x.num y.den
    have := nb_mulI y.num x.den
    simp only [Int.natAbs_natCast] at *
    omega
  · refine Nat.le_trans (nb_mulI ..) ?_
    simp only [Int.natAbs_natCast] at *
    omega
theorem bz_sub (x y : Rat) : bz (x - y) ≤ bz x + bz y + 1 := by
  rw [sub_divInt]
  have a1 := bz_num x
  have a2 := bz_den x
  have b1 := bz_num y
  have b2 := bz_den y
  refine bz_divInt ?_ ?_
  · refine Nat.le_trans (nb_subI ..) ?_
    have := nb_mulI x.num y.den
    have := nb_mulI y.num x.den
    simp only [Int.natAbs_natCast] at *
    omega
  · refine Nat.le_trans (nb_mulI ..) ?_
    simp only [Int.natAbs_natCast] at *
    omega
theorem bz_mul (x y : Rat) : bz (x * y) ≤ bz x + bz y := by
  rw [mul_divInt]
  have a1 := bz_num x
  have a2 := bz_den x
  have b1 := bz_num y
  have b2 := bz_den y
  refine bz_divInt ?_ ?_
  · refine Nat.le_trans (nb_mulI ..) ?_
    omega
  · refine Nat.le_trans (nb_mulI ..) ?_
    simp only [Int.natAbs_natCast] at *
    omega
theorem bz_neg (x : Rat) : bz (-x) = bz x := by
  unfold bz
  have h1 : (-x).num = - x.num := rfl
  have h2 : (-x).den = x.den := rfl
  rw [h1, h2, Int.natAbs_neg]

/-! ### Euclid -/
theorem gcd_step (a b : Nat) : Nat.gcd b (a % b) = Nat.gcd a b := by rw [Nat.gcd_comm, ← Nat.gcd_rec, Nat.gcd_comm]
theorem mod_half {a b k : Nat} (hb : b < 2 ^ (k + 1)) (h : a % b ≠ 0) (h0 : b ≠ 0) : b % (a % b) < 2 ^ k := by
  have h1 : a % b < b := Nat.mod_lt _ (by omega)
  have h2 : b % (a % b) < a % b := Nat.mod_lt _ (by omega)
  have h3 := Nat.div_add_mod b (a % b)
  have h4 : 1 ≤ b / (a % b) := (Nat.one_le_div_iff (by omega)).mpr (by omega)
  have h5 : a % b * 1 ≤ a % b * (b / (a % b)) := Nat.mul_le_mul_left _ h4
  rw [Nat.pow_succ] at hb
  omega
theorem euclid_wh {test : PV × PV → Option Bool} {step : PV × PV → (PV × PV → Out) → (PV × PV → Out) → Out} {K : PV × PV → Out}
    (ht : ∀ a b : Nat, test (.int a, .int b) = some (decide (b ≠ 0))) (hs : ∀ a b : Nat, b ≠ 0 → ∀ kn kb, step (.int a, .int b) kn kb = kn (.int b, .int (a % b : Nat))) :
    ∀ (k a b w : Nat), b < 2 ^ k → 2 * k + 1 ≤ w → whC test step K w (.int a, .int b) = K (.int (Nat.gcd a b), .int (0 : Nat))
  | 0, a, b, w, hb, hw => by
    obtain ⟨w, rfl⟩ : ∃ v, w = v + 1 := ⟨w - 1, by omega⟩
    have : b = 0 := by simp at hb; exact hb
    subst this
    unfold whC
    rw [ht]
    simp
  | k + 1, a, b, w, hb, hw => by
    obtain ⟨w, rfl⟩ : ∃ v, w = v + 1 := ⟨w - 1, by omega⟩
    unfold whC
    rw [ht]
    by_cases h0 : b = 0
    · subst h0; simp
    · simp only [ne_eq, h0, not_false_eq_true, decide_true, ob_some, if_true]
      rw [hs a b h0]
      show whC test step K w (.int b, .int (a % b : Nat)) = _
      obtain ⟨w, rfl⟩ : ∃ v, w = v + 1 := ⟨w - 1, by omega⟩
      unfold whC
      rw [ht]
      by_cases h1 : a % b = 0
      · rw [h1, ← gcd_step a b, h1]; simp
      · simp only [ne_eq, h1, not_false_eq_true, decide_true, ob_some, if_true]
        rw [hs b (a % b) h1]
        show whC test step K w (.int (a % b : Nat), .int (b % (a % b) : Nat)) = _
        rw [euclid_wh ht hs k (a % b) (b % (a % b)) w (mod_half hb h1 h0) (by omega), gcd_step, gcd_step]
theorem euclid_for {step : PV → PV × PV → (PV × PV → Out) → (PV × PV → Out) → Out} {K : PV × PV → Out}
    (h0 : ∀ x (a : Nat) kn kb, step x (.int a, .int (0 : Nat)) kn kb = kb (.int a, .int (0 : Nat))) (hs : ∀ x (a b : Nat), b ≠ 0 → ∀ kn kb, step x (.int a, .int b) kn kb = kn (.int b, .int (a % b : Nat))) :
    ∀ (k a b n : Nat) (lo : Int), b < 2 ^ k → 2 * k + 1 ≤ n → forC step K (intsFrom lo n) (.int a, .int b) = K (.int (Nat.gcd a b), .int (0 : Nat))
  | 0, a, b, n, lo, hb, hn => by
    obtain ⟨n, rfl⟩ : ∃ v, n = v + 1 := ⟨n - 1, by omega⟩
    have : b = 0 := by simp at hb; exact hb
    subst this
    unfold intsFrom forC
    rw [h0]
    simp
  | k + 1, a, b, n, lo, hb, hn => by
    obtain ⟨n, rfl⟩ : ∃ v, n = v + 1 := ⟨n - 1, by omega⟩
    unfold intsFrom forC
    by_cases hb0 : b = 0
    · subst hb0
      rw [h0]
      simp
    · rw [hs _ a b hb0]
      show forC step K (intsFrom (lo + 1) n) (.int b, .int (a % b : Nat)) = _
      obtain ⟨n, rfl⟩ : ∃ v, n = v + 1 := ⟨n - 1, by omega⟩
      unfold intsFrom forC
      by_cases h1 : a % b = 0
      · rw [h1, h0, ← gcd_step a b, h1]; simp
      · rw [hs _ b (a % b) h1]
        show forC step K (intsFrom (lo + 1 + 1) n) (.int (a % b : Nat), .int (b % (a % b) : Nat)) = _
        rw [euclid_for h0 hs k (a % b) (b % (a % b)) n _ (mod_half hb h1 hb0) (by omega), gcd_step, gcd_step]

/-! ### fractions -/
def fr (q : Rat) : PV := .tup [.int q.num, .int q.den]
@[simp] theorem fr0 {q : Rat} : ix (fr q) (.int 0) = sh (.int q.num) := ix_t0
@[simp] theorem fr1 {q : Rat} : ix (fr q) (.int 1) = sh (.int q.den) := ix_t1
theorem fr_inj {x y : Rat} : fr x = fr y ↔ x = y := by
  constructor
  · intro h
    unfold fr at h
    simp only [PV.tup.injEq, List.cons.injEq, PV.int.injEq, Int.natCast_inj, and_true] at h
    exact Rat.ext h.1 h.2
  · rintro rfl; rfl
@[simp] theorem fr_pl {x : Rat} : (fr x).pl = true := by simp [fr, PV.pl, PV.pls]
@[simp] theorem fr_dp {x : Rat} : (fr x).dp = 1 := by simp [fr, PV.dp, PV.dps]
theorem fr_flat {x : Rat} : (fr x).flat = true := by simp [fr, PV.flat, PV.flats]
@[simp] theorem eqD_fr {x y : Rat} : eqD (fr x) (fr y) = some (decide (x = y)) := by
  rw [eqD_pl fr_pl fr_pl (by simp) (by simp)]
  congr 1
  simp [fr_inj]
theorem divInt_parts {n d : Int} {s : Int} (hd : d ≠ 0) (hs : s = if d < 0 then -(Int.gcd n d : Int) else (Int.gcd n d : Int)) : n.fdiv s = (Rat.divInt n d).num ∧ d.fdiv s = (Rat.divInt n d).den := by
  have hg : (Int.gcd n d : Int) ≠ 0 := by
    intro h
    have : Int.gcd n d = 0 := by omega
    exact hd (Int.gcd_eq_zero_iff.mp this).2
  have hg0 : (0 : Int) < Int.gcd n d := by omega
  obtain ⟨n', hn⟩ := Int.gcd_dvd_left (a := n) (b := d)
  obtain ⟨d', hd'⟩ := Int.gcd_dvd_right (a := n) (b := d)
  rw [Rat.num_divInt, Rat.den_divInt, if_neg hd, Int.gcd_comm d n]
  generalize hG : (Int.gcd n d : Nat) = g at *
  by_cases hneg : d < 0
  · rw [if_pos hneg] at hs
    subst hs
    have hd'neg : d' < 0 := by
      rcases Int.lt_or_le d' 0 with h | h
      · exact h
      · have : 0 ≤ (g : Int) * d' := Int.mul_nonneg (by omega) h
        omega
    rw [Int.sign_eq_neg_one_of_neg hneg]
    constructor
    · rw [hn, show (g : Int) * n' = (-(g : Int)) * (-n') by rw [Int.neg_mul_neg], Int.mul_fdiv_cancel_left _ (by omega), show -1 * (-(g : Int) * -n') = (g : Int) * (-n') by rw [Int.neg_mul_neg, Int.neg_one_mul, Int.mul_neg], Int.mul_ediv_cancel_left _ hg]
    · have e : d.natAbs / g = d'.natAbs := by rw [hd', Int.natAbs_mul, Int.natAbs_natCast]; exact Nat.mul_div_cancel_left _ (by omega)
      rw [e]
      conv => lhs; rw [hd', show (g : Int) * d' = (-(g : Int)) * (-d') by rw [Int.neg_mul_neg]]
      rw [Int.mul_fdiv_cancel_left _ (by omega)]
      omega
  · rw [if_neg hneg] at hs
    subst hs
    have hd'pos : 0 ≤ d' := by
      rcases Int.lt_or_le d' 0 with h | h
      · have : (g : Int) * d' < 0 := Int.mul_neg_of_pos_of_neg hg0 h
        omega
      · exact h
    rw [Int.sign_eq_one_of_pos (by omega)]
    constructor
    · rw [hn, Int.mul_fdiv_cancel_left _ hg, Int.one_mul, Int.mul_ediv_cancel_left _ hg]
    · have e : d.natAbs / g = d'.natAbs := by rw [hd', Int.natAbs_mul, Int.natAbs_natCast]; exact Nat.mul_div_cancel_left _ (by omega)
      rw [e]
      conv => lhs; rw [hd']
      rw [Int.mul_fdiv_cancel_left _ hg]
      omega
end Pv

/-! Part T: the numbers' defs, by their mirrors -/
namespace Pv
open PySem L2
def mm_common (C : Str → List PV → Out) (v_a v_b : PV) : Out :=
  jn (fun (s2 : PV × PV) => jn (fun (s6 : PV × PV) => some (s6.1, false)) fun j5 => whC (fun (s7 : PV × PV) => cmp .Gt s7.2 (.int 0)) (fun (s7 : PV × PV) k9 k10 => (op2 .Mod s7.1 s7.2).bind fun p11 => k9 (s7.2, p11.1)) (fun (s12 : PV × PV) => j5 (s12.1, s12.2)) 100000 (s2.1, s2.2)) fun j1 => (bltV "abs" [v_a]).bind fun p3 => (bltV "abs" [v_b]).bind fun p4 => j1 (p3.1, p4.1)
def mm_fraction (C : Str → List PV → Out) (v_number v_divisor : PV) : Out :=
  jn (fun (s2 : PV) => jn (fun (s6 : PV) => (((op2 .FloorDiv v_number s6).bind fun p10 => ((op2 .FloorDiv v_divisor s6).bind fun p9 => some [p9.1]).map fun q11 => p10.1 :: q11).bind fun q12 => sh (.tup q12)).bind fun p13 => some (p13.1, p13.2)) fun j5 => (cmp .Lt v_divisor (.int 0)).bind fun t8 => if t8 then (neg1 s2).bind fun p7 => j5 p7.1 else j5 s2) fun j1 => (cmp .Eq v_divisor (.int 0)).bind fun t3 => if t3 then none else (cl1 (C "common" [v_number, v_divisor])).bind fun p4 => j1 p4.1
def mm_plus (C : Str → List PV → Out) (v_a v_b : PV) : Out :=
  (((((ix v_a (.int 0)).bind fun p1 => (ix v_b (.int 1)).bind fun p2 => op2 .Mult p1.1 p2.1).bind fun p3 => ((ix v_b (.int 0)).bind fun p4 => (ix v_a (.int 1)).bind fun p5 => op2 .Mult p4.1 p5.1).bind fun p6 => op2 .Add p3.1 p6.1).bind fun p10 => (((ix v_a (.int 1)).bind fun p7 => (ix v_b (.int 1)).bind fun p8 => op2 .Mult p7.1 p8.1).bind fun p9 => some [p9.1]).map fun q11 => p10.1 :: q11).bind fun q12 => cl1 (C "fraction" (q12 ++ []))).bind fun p13 => some (p13.1, p13.2)
def mm_minus (C : Str → List PV → Out) (v_a v_b : PV) : Out :=
  (((((ix v_a (.int 0)).bind fun p1 => (ix v_b (.int 1)).bind fun p2 => op2 .Mult p1.1 p2.1).bind fun p3 => ((ix v_b (.int 0)).bind fun p4 => (ix v_a (.int 1)).bind fun p5 => op2 .Mult p4.1 p5.1).bind fun p6 => op2 .Sub p3.1 p6.1).bind fun p10 => (((ix v_a (.int 1)).bind fun p7 => (ix v_b (.int 1)).bind fun p8 => op2 .Mult p7.1 p8.1).bind fun p9 => some [p9.1]).map fun q11 => p10.1 :: q11).bind fun q12 => cl1 (C "fraction" (q12 ++ []))).bind fun p13 => some (p13.1, p13.2)
def mm_times (C : Str → List PV → Out) (v_a v_b : PV) : Out :=
  ((((ix v_a (.int 0)).bind fun p1 => (ix v_b (.int 0)).bind fun p2 => op2 .Mult p1.1 p2.1).bind fun p6 => (((ix v_a (.int 1)).bind fun p3 => (ix v_b (.int 1)).bind fun p4 => op2 .Mult p3.1 p4.1).bind fun p5 => some [p5.1]).map fun q7 => p6.1 :: q7).bind fun q8 => cl1 (C "fraction" (q8 ++ []))).bind fun p9 => some (p9.1, p9.2)
def mm_less (C : Str → List PV → Out) (v_a v_b : PV) : Out :=
  (((ix v_a (.int 0)).bind fun p1 => (ix v_b (.int 1)).bind fun p2 => op2 .Mult p1.1 p2.1).bind fun p3 => ((ix v_b (.int 0)).bind fun p4 => (ix v_a (.int 1)).bind fun p5 => op2 .Mult p4.1 p5.1).bind fun p6 => cmpV .Lt p3.1 p6.1).bind fun p7 => some (p7.1, p7.2)
def mm_sign (C : Str → List PV → Out) (v_a : PV) : Out :=
  ((ix v_a (.int 0)).bind fun p4 => cmp .Lt p4.1 (.int 0)).bind fun t1 => if t1 then sh (.int (-1)) else ((ix v_a (.int 0)).bind fun p3 => cmp .Gt p3.1 (.int 0)).bind fun t2 => if t2 then sh (.int 1) else sh (.int 0)
def mm_bare (C : Str → List PV → Out) (v_a : PV) : Out :=
  (((((ix v_a (.int 0)).bind fun p1 => some [p1.1]).bind fun q2 => bltV "abs" q2).bind fun p4 => ((ix v_a (.int 1)).bind fun p3 => some [p3.1]).map fun q5 => p4.1 :: q5).bind fun q6 => sh (.tup q6)).bind fun p7 => some (p7.1, p7.2)
def mm__law_is_integer (C : Str → List PV → Out) (v_actual : PV) : Out :=
  ((insV "int" v_actual).bind fun p2 => (blOf p2.1).bind fun b1 => if b1 then (insV "bool" v_actual).bind fun p3 => not1 p3.1 else sh (.bl false)).bind fun p4 => some (p4.1, p4.2)
def mm__law_is_truth (C : Str → List PV → Out) (v_actual v_due : PV) : Out :=
  ((insV "bool" v_actual).bind fun p2 => (blOf p2.1).bind fun b1 => if b1 then cmpV .Eq v_actual v_due else sh (.bl false)).bind fun p3 => some (p3.1, p3.2)
def mm__law_cell (C : Str → List PV → Out) (v_script v_k : PV) : Out :=
  ((bltV "len" [v_script]).bind fun p7 => cmp .Lt v_k p7.1).bind fun t1 => if t1 then (((((ix v_script v_k).bind fun p2 => some [p2.1]).bind fun q3 => bltV "int" q3).bind fun p4 => some [p4.1]).bind fun q5 => bltV "abs" q5).bind fun p6 => some (p6.1, p6.2) else sh (.int 0)
def mm__law_row (C : Str → List PV → Out) (v_cell v_size v_base : PV) : Out :=
  jn (fun (s2 : List PV × PV) => jn (fun (s4 : List PV × PV) => some (.lst s4.1, true)) fun j3 => (rng1 v_size).bind fun xs55 => forC (fun x31 (s5 : List PV × PV) k29 k30 => ((op2 .Pow (.int 10) (.int 18)).bind fun p53 => cmp .GtE v_cell p53.1).bind fun t52 => if t52 then ((bltV "int" [s5.2]).bind fun p32 => op2 .Mod p32.1 v_base).bind fun p33 => (pushO s5.1 p33.1).bind fun ys34 => (op2 .FloorDiv s5.2 v_base).bind fun p35 => k29 (ys34, p35.1) else ((((((bltV "int" [v_cell]).bind fun p36 => op2 .Mod p36.1 (.int 1000003)).bind fun p37 => op2 .Mult p37.1 (.int 48271)).bind fun p38 => (op2 .Mult x31 (.int 69621)).bind fun p39 => op2 .Add p38.1 p39.1).bind fun p40 => (op2 .FloorDiv v_cell (.int 1000003)).bind fun p41 => op2 .Add p40.1 p41.1).bind fun p42 => op2 .Mod p42.1 (.int 2147483647)).bind fun p43 => ((((op2 .Mult p43.1 (.int 16807)).bind fun p44 => (op2 .Mult x31 (.int 12345)).bind fun p45 => op2 .Add p44.1 p45.1).bind fun p46 => op2 .Add p46.1 (.int 99991)).bind fun p47 => op2 .Mod p47.1 (.int 2147483629)).bind fun p48 => ((op2 .FloorDiv p48.1 (.int 7)).bind fun p49 => op2 .Mod p49.1 v_base).bind fun p50 => (pushO s5.1 p50.1).bind fun ys51 => k29 (ys51, s5.2)) (fun (s54 : List PV × PV) => j3 (s54.1, s54.2)) xs55 (s2.1, s2.2)) fun j1 => j1 ([], v_cell)
def mm__law_fraction (C : Str → List PV → Out) (v_number v_divisor : PV) : Out :=
  jn (fun (s2 : PV × PV) => jn (fun (s6 : PV × PV) => jn (fun (s19 : PV) => (((op2 .FloorDiv v_number s19).bind fun p23 => ((op2 .FloorDiv v_divisor s19).bind fun p22 => some [p22.1]).map fun q24 => p23.1 :: q24).bind fun q25 => sh (.tup q25)).bind fun p26 => some (p26.1, p26.2)) fun j18 => (cmp .Lt v_divisor (.int 0)).bind fun t21 => if t21 then (neg1 s6.1).bind fun p20 => j18 p20.1 else j18 s6.1) fun j5 => (rng1 (.int 10000)).bind fun xs17 => forC (fun x13 (s7 : PV × PV) k11 k12 => (cmp .Eq s7.2 (.int 0)).bind fun t14 => if t14 then k12 (s7.1, s7.2) else (op2 .Mod s7.1 s7.2).bind fun p15 => k11 (s7.2, p15.1)) (fun (s16 : PV × PV) => j5 (s16.1, s16.2)) xs17 (s2.1, s2.2)) fun j1 => (bltV "abs" [v_number]).bind fun p3 => (bltV "abs" [v_divisor]).bind fun p4 => j1 (p3.1, p4.1)
def mm__law_plus (C : Str → List PV → Out) (v_a v_b : PV) : Out :=
  (((((ix v_a (.int 0)).bind fun p1 => (ix v_b (.int 1)).bind fun p2 => op2 .Mult p1.1 p2.1).bind fun p3 => ((ix v_b (.int 0)).bind fun p4 => (ix v_a (.int 1)).bind fun p5 => op2 .Mult p4.1 p5.1).bind fun p6 => op2 .Add p3.1 p6.1).bind fun p10 => (((ix v_a (.int 1)).bind fun p7 => (ix v_b (.int 1)).bind fun p8 => op2 .Mult p7.1 p8.1).bind fun p9 => some [p9.1]).map fun q11 => p10.1 :: q11).bind fun q12 => cl1 (C "_law_fraction" (q12 ++ []))).bind fun p13 => some (p13.1, p13.2)
def mm__law_minus (C : Str → List PV → Out) (v_a v_b : PV) : Out :=
  (((((ix v_a (.int 0)).bind fun p1 => (ix v_b (.int 1)).bind fun p2 => op2 .Mult p1.1 p2.1).bind fun p3 => ((ix v_b (.int 0)).bind fun p4 => (ix v_a (.int 1)).bind fun p5 => op2 .Mult p4.1 p5.1).bind fun p6 => op2 .Sub p3.1 p6.1).bind fun p10 => (((ix v_a (.int 1)).bind fun p7 => (ix v_b (.int 1)).bind fun p8 => op2 .Mult p7.1 p8.1).bind fun p9 => some [p9.1]).map fun q11 => p10.1 :: q11).bind fun q12 => cl1 (C "_law_fraction" (q12 ++ []))).bind fun p13 => some (p13.1, p13.2)
def mm__law_times (C : Str → List PV → Out) (v_a v_b : PV) : Out :=
  ((((ix v_a (.int 0)).bind fun p1 => (ix v_b (.int 0)).bind fun p2 => op2 .Mult p1.1 p2.1).bind fun p6 => (((ix v_a (.int 1)).bind fun p3 => (ix v_b (.int 1)).bind fun p4 => op2 .Mult p3.1 p4.1).bind fun p5 => some [p5.1]).map fun q7 => p6.1 :: q7).bind fun q8 => cl1 (C "_law_fraction" (q8 ++ []))).bind fun p9 => some (p9.1, p9.2)
def mm__law_bare (C : Str → List PV → Out) (v_a : PV) : Out :=
  (((((ix v_a (.int 0)).bind fun p1 => some [p1.1]).bind fun q2 => bltV "abs" q2).bind fun p4 => ((ix v_a (.int 1)).bind fun p3 => some [p3.1]).map fun q5 => p4.1 :: q5).bind fun q6 => sh (.tup q6)).bind fun p7 => some (p7.1, p7.2)
def mm__law_before (C : Str → List PV → Out) (v_a v_b : PV) : Out :=
  (((ix v_a (.int 0)).bind fun p1 => (ix v_b (.int 1)).bind fun p2 => op2 .Mult p1.1 p2.1).bind fun p3 => ((ix v_b (.int 0)).bind fun p4 => (ix v_a (.int 1)).bind fun p5 => op2 .Mult p4.1 p5.1).bind fun p6 => cmpV .Lt p3.1 p6.1).bind fun p7 => some (p7.1, p7.2)
def mm__law_is_fraction (C : Str → List PV → Out) (v_actual : PV) : Out :=
  ((((insV "tuple" v_actual).bind fun p21 => truth p21.1).map fun b20 => !b20).bind fun b22 => if b22 then some true else (bltV "len" [v_actual]).bind fun p23 => cmp .NotEq p23.1 (.int 2)).bind fun t1 => if t1 then sh (.bl false) else ((((((ix v_actual (.int 0)).bind fun p10 => some [p10.1]).bind fun q11 => cl1 (C "_law_is_integer" (q11 ++ []))).bind fun p12 => truth p12.1).map fun b9 => !b9).bind fun b13 => if b13 then some true else (((((ix v_actual (.int 1)).bind fun p15 => some [p15.1]).bind fun q16 => cl1 (C "_law_is_integer" (q16 ++ []))).bind fun p17 => truth p17.1).map fun b14 => !b14).bind fun b18 => if b18 then some true else (ix v_actual (.int 1)).bind fun p19 => cmp .Lt p19.1 (.int 1)).bind fun t2 => if t2 then sh (.bl false) else ((((ix v_actual (.int 0)).bind fun p4 => ((ix v_actual (.int 1)).bind fun p3 => some [p3.1]).map fun q5 => p4.1 :: q5).bind fun q6 => cl1 (C "_law_fraction" (q6 ++ []))).bind fun p7 => cmpV .Eq v_actual p7.1).bind fun p8 => some (p8.1, p8.2)
abbrev Cl := Str → List PV → Out
def S_common (C : Cl) : Prop := ∀ a b : Int, nb b.natAbs ≤ 9000 → C "common" [.int a, .int b] = sh (.int (Int.gcd a b))
def S_fraction (C : Cl) : Prop := ∀ n d : Int, d ≠ 0 → nb d.natAbs ≤ 9000 → C "fraction" [.int n, .int d] = sh (fr (Rat.divInt n d))
def S_lfraction (C : Cl) : Prop := ∀ n d : Int, d ≠ 0 → nb d.natAbs ≤ 4900 → C "_law_fraction" [.int n, .int d] = sh (fr (Rat.divInt n d))
def S_add (C : Cl) (f : Str) : Prop := ∀ x y : Rat, bz x + bz y ≤ 4900 → C f [fr x, fr y] = sh (fr (x + y))
def S_sub (C : Cl) (f : Str) : Prop := ∀ x y : Rat, bz x + bz y ≤ 4900 → C f [fr x, fr y] = sh (fr (x - y))
def S_mul (C : Cl) (f : Str) : Prop := ∀ x y : Rat, bz x + bz y ≤ 4900 → C f [fr x, fr y] = sh (fr (x * y))
def S_lt (C : Cl) (f : Str) : Prop := ∀ x y : Rat, bz x + bz y ≤ 4900 → C f [fr x, fr y] = sh (.bl (decide (x < y)))

theorem s_common (C : Cl) (a b : Int) (h : nb b.natAbs ≤ 9000) : mm_common C (.int a) (.int b) = sh (.int (Int.gcd a b)) := by
  unfold mm_common
  simp only [abs_int, sh_bind, jn_def]
  obtain ⟨w, hw⟩ : ∃ w : Nat, w = 100000 := ⟨_, rfl⟩
  rw [← hw]
  rw [euclid_wh (fun a b => by simp [Int.natCast_pos, Nat.pos_iff_ne_zero]) (fun a b h0 kn kb => by simp only []; rw [op2_mods (by omega), sh_bind]; rfl) 9000 a.natAbs b.natAbs w
    (Nat.lt_of_lt_of_le (lt_nb _) (Nat.pow_le_pow_right (by omega) h)) (by omega)]
  rfl
theorem s_frac {n d : Int} (hd : d ≠ 0) (h : nb d.natAbs ≤ 9000) {s : Int} (hs : s = if d < 0 then -(Int.gcd n d : Int) else (Int.gcd n d : Int)) :
    op2 .FloorDiv (.int n) (.int s) = sh (.int (Rat.divInt n d).num) ∧ op2 .FloorDiv (.int d) (.int s) = sh (.int (Rat.divInt n d).den) := by
  have hg : Int.gcd n d ≠ 0 := fun h => hd (Int.gcd_eq_zero_iff.mp h).2
  have hle : Int.gcd n d ≤ d.natAbs := Nat.le_of_dvd (by omega) (Int.ofNat_dvd_left.mp (Int.gcd_dvd_right ..))
  have hok : divOk s = true := by
    refine divOk_nb ?_ (Nat.le_trans (nb_mono ?_) h)
    · subst hs; split <;> omega
    · subst hs; split <;> omega
  obtain ⟨h1, h2⟩ := divInt_parts hd hs
  exact ⟨by rw [op2_div hok, h1], by rw [op2_div hok, h2]⟩
theorem s_fraction {C : Cl} (hc : S_common C) (n d : Int) (hd : d ≠ 0) (h : nb d.natAbs ≤ 9000) : mm_fraction C (.int n) (.int d) = sh (fr (Rat.divInt n d)) := by
  unfold mm_fraction
  simp only [cmp_eq, eqD_int, hd, decide_false, ob_some, Bool.false_eq_true, if_false, hc n d h, cl1_sh, sh_bind, jn_def, cmp_lt, neg1_int]
  by_cases hneg : d < 0
  · obtain ⟨h1, h2⟩ := s_frac (n := n) hd h (s := -(Int.gcd n d : Int)) (by rw [if_pos hneg])
    simp only [hneg, decide_true, if_true, h1, h2, sh_bind, ob_some, om_some]
    rfl
  · obtain ⟨h1, h2⟩ := s_frac (n := n) hd h (s := (Int.gcd n d : Int)) (by rw [if_neg hneg])
    simp only [hneg, decide_false, Bool.false_eq_true, if_false, h1, h2, sh_bind, ob_some, om_some]
    rfl
theorem s_lfraction (C : Cl) (n d : Int) (hd : d ≠ 0) (h : nb d.natAbs ≤ 4900) : mm__law_fraction C (.int n) (.int d) = sh (fr (Rat.divInt n d)) := by
  unfold mm__law_fraction
  simp only [abs_int, sh_bind, jn_def]
  have hr : rng1 (.int 10000) = some (intsFrom 0 10000) := rng1_ok (n := 10000) (by omega)
  rw [hr, ob_some]
  rw [euclid_for (fun x a kn kb => by simp) (fun x a b h0 kn kb => by
      have : ¬ (b : Int) = 0 := by omega
      simp only [cmp_eq, eqD_int, this, decide_false, ob_some, Bool.false_eq_true, if_false]
      rw [op2_mods (by omega), sh_bind]; rfl) 4900 n.natAbs d.natAbs 10000 0
    (Nat.lt_of_lt_of_le (lt_nb _) (Nat.pow_le_pow_right (by omega) h)) (by omega)]
  have hgcd : Nat.gcd n.natAbs d.natAbs = Int.gcd n d := rfl
  simp only [cmp_lt, ob_some, neg1_int, sh_bind, hgcd]
  by_cases hneg : d < 0
  · obtain ⟨h1, h2⟩ := s_frac (n := n) hd (by omega) (s := -(Int.gcd n d : Int)) (by rw [if_pos hneg])
    simp only [hneg, decide_true, if_true, h1, h2, sh_bind, ob_some, om_some]
    rfl
  · obtain ⟨h1, h2⟩ := s_frac (n := n) hd (by omega) (s := (Int.gcd n d : Int)) (by rw [if_neg hneg])
    simp only [hneg, decide_false, Bool.false_eq_true, if_false, h1, h2, sh_bind, ob_some, om_some]
    rfl
section
variable {x y : Rat}
theorem den_ne (x : Rat) : (x.den : Int) ≠ 0 := by have := x.den_nz; omega
theorem den_pos (x : Rat) : (0 : Int) < x.den := by have := x.den_pos; omega
theorem parts_ok (h : bz x + bz y ≤ 4900) : mulOk x.num y.den = true ∧ mulOk y.num x.den = true ∧ mulOk x.den y.den = true ∧ mulOk x.num y.num = true ∧ ((x.den : Int) * y.den ≠ 0) ∧ nb ((x.den : Int) * y.den).natAbs ≤ 4900 := by
  have a1 := bz_num x
  have a2 := bz_den x
  have b1 := bz_num y
  have b2 := bz_den y
  have hm := nb_mulI x.den y.den
  simp only [Int.natAbs_natCast] at hm
  refine ⟨mulOk_nb ?_, mulOk_nb ?_, mulOk_nb ?_, mulOk_nb ?_, Int.mul_ne_zero (den_ne x) (den_ne y), by omega⟩ <;> (try simp only [Int.natAbs_natCast]) <;> omega
end
theorem s_plus {C : Cl} (hc : S_fraction C) (x y : Rat) (h : bz x + bz y ≤ 4900) : mm_plus C (fr x) (fr y) = sh (fr (x + y)) := by
  obtain ⟨h1, h2, h3, h4, h5, h6⟩ := parts_ok h
  unfold mm_plus
  simp only [fr0, fr1, sh_bind, op2_mul h1, op2_mul h2, op2_mul h3, op2_add, ob_some, om_some, List.append_nil, hc _ _ h5 (by omega), cl1_sh, ← add_divInt]
  rfl
theorem s_minus {C : Cl} (hc : S_fraction C) (x y : Rat) (h : bz x + bz y ≤ 4900) : mm_minus C (fr x) (fr y) = sh (fr (x - y)) := by
  obtain ⟨h1, h2, h3, h4, h5, h6⟩ := parts_ok h
  unfold mm_minus
  simp only [fr0, fr1, sh_bind, op2_mul h1, op2_mul h2, op2_mul h3, op2_sub, ob_some, om_some, List.append_nil, hc _ _ h5 (by omega), cl1_sh, ← sub_divInt]
  rfl
theorem s_times {C : Cl} (hc : S_fraction C) (x y : Rat) (h : bz x + bz y ≤ 4900) : mm_times C (fr x) (fr y) = sh (fr (x * y)) := by
  obtain ⟨h1, h2, h3, h4, h5, h6⟩ := parts_ok h
  unfold mm_times
  simp only [fr0, fr1, sh_bind, op2_mul h4, op2_mul h3, ob_some, om_some, List.append_nil, hc _ _ h5 (by omega), cl1_sh, ← mul_divInt]
  rfl
theorem s_lplus {C : Cl} (hc : S_lfraction C) (x y : Rat) (h : bz x + bz y ≤ 4900) : mm__law_plus C (fr x) (fr y) = sh (fr (x + y)) := by
  obtain ⟨h1, h2, h3, h4, h5, h6⟩ := parts_ok h
  unfold mm__law_plus
  simp only [fr0, fr1, sh_bind, op2_mul h1, op2_mul h2, op2_mul h3, op2_add, ob_some, om_some, List.append_nil, hc _ _ h5 (by omega), cl1_sh, ← add_divInt]
  rfl
theorem s_lminus {C : Cl} (hc : S_lfraction C) (x y : Rat) (h : bz x + bz y ≤ 4900) : mm__law_minus C (fr x) (fr y) = sh (fr (x - y)) := by
  obtain ⟨h1, h2, h3, h4, h5, h6⟩ := parts_ok h
  unfold mm__law_minus
  simp only [fr0, fr1, sh_bind, op2_mul h1, op2_mul h2, op2_mul h3, op2_sub, ob_some, om_some, List.append_nil, hc _ _ h5 (by omega), cl1_sh, ← sub_divInt]
  rfl
theorem s_ltimes {C : Cl} (hc : S_lfraction C) (x y : Rat) (h : bz x + bz y ≤ 4900) : mm__law_times C (fr x) (fr y) = sh (fr (x * y)) := by
  obtain ⟨h1, h2, h3, h4, h5, h6⟩ := parts_ok h
  unfold mm__law_times
  simp only [fr0, fr1, sh_bind, op2_mul h4, op2_mul h3, ob_some, om_some, List.append_nil, hc _ _ h5 (by omega), cl1_sh, ← mul_divInt]
  rfl
theorem lt_parts (x y : Rat) : (x.num * y.den < y.num * x.den) ↔ x < y := (Rat.lt_iff x y).symm
theorem s_less (C : Cl) (x y : Rat) (h : bz x + bz y ≤ 4900) : mm_less C (fr x) (fr y) = sh (.bl (decide (x < y))) := by
  obtain ⟨h1, h2, h3, h4, h5, h6⟩ := parts_ok h
  unfold mm_less
  simp only [fr0, fr1, sh_bind, op2_mul h1, op2_mul h2, cmpV_def, cmp_lt, ob_some, lt_parts]
  rfl
theorem s_lbefore (C : Cl) (x y : Rat) (h : bz x + bz y ≤ 4900) : mm__law_before C (fr x) (fr y) = sh (.bl (decide (x < y))) := by
  obtain ⟨h1, h2, h3, h4, h5, h6⟩ := parts_ok h
  unfold mm__law_before
  simp only [fr0, fr1, sh_bind, op2_mul h1, op2_mul h2, cmpV_def, cmp_lt, ob_some, lt_parts]
  rfl
/-- the sign, and the size, of a fraction -/
def sgn (x : Rat) : Int := if x < 0 then -1 else if 0 < x then 1 else 0
def ab (x : Rat) : Rat := if x < 0 then -x else x
theorem num_neg_iff (x : Rat) : x.num < 0 ↔ x < 0 := by rw [Rat.lt_iff]; simp
theorem num_pos_iff (x : Rat) : 0 < x.num ↔ 0 < x := by rw [Rat.lt_iff]; simp
theorem num_zero_iff (x : Rat) : x.num = 0 ↔ x = 0 := Rat.num_eq_zero
theorem s_sign (C : Cl) (x : Rat) : mm_sign C (fr x) = sh (.int (sgn x)) := by
  unfold mm_sign sgn
  simp only [fr0, sh_bind, cmp_lt, cmp_gt, ob_some, num_neg_iff, num_pos_iff]
  by_cases h : x < 0
  · simp [h]
  · by_cases h2 : 0 < x <;> simp [h, h2]
theorem abs_fr (x : Rat) : PV.tup [.int x.num.natAbs, .int x.den] = fr (ab x) := by
  unfold ab fr
  by_cases h : x < 0
  · have := (num_neg_iff x).mpr h
    rw [if_pos h]
    have h1 : (-x).num = - x.num := rfl
    have h2 : (-x).den = x.den := rfl
    rw [h1, h2]
    congr 3
    omega
  · have := mt (num_neg_iff x).mp h
    rw [if_neg h]
    congr 3
    omega
theorem bz_ab (x : Rat) : bz (ab x) = bz x := by
  unfold ab
  split
  · exact bz_neg x
  · rfl
theorem s_bare (C : Cl) (x : Rat) : mm_bare C (fr x) = sh (fr (ab x)) := by
  unfold mm_bare
  simp only [fr0, fr1, sh_bind, ob_some, abs_int, om_some, abs_fr]
  rfl
theorem s_lbare (C : Cl) (x : Rat) : mm__law_bare C (fr x) = sh (fr (ab x)) := by
  unfold mm__law_bare
  simp only [fr0, fr1, sh_bind, ob_some, abs_int, om_some, abs_fr]
  rfl
theorem s_lint (C : Cl) (i : Int) : mm__law_is_integer C (.int i) = sh (.bl true) := by
  unfold mm__law_is_integer
  simp
  rfl
theorem s_ltruth (C : Cl) (a b : Bool) : mm__law_is_truth C (.bl a) (.bl b) = sh (.bl (decide (a = b))) := by
  unfold mm__law_is_truth
  have : eqD (.bl a) (.bl b) = some (decide (a = b)) := by cases a <;> cases b <;> decide +kernel
  simp [this]
  rfl
theorem divInt_self' (x : Rat) : Rat.divInt x.num x.den = x := Rat.num_divInt_den x
theorem s_lisfr {C : Cl} (hc : S_lfraction C) (hi : ∀ i, C "_law_is_integer" [.int i] = sh (.bl true)) (x : Rat) (h : bz x ≤ 4900) : mm__law_is_fraction C (fr x) = sh (.bl true) := by
  have hd : ¬ (x.den : Int) < 1 := by have := den_pos x; omega
  have hn := bz_den x
  have e : insV "tuple" (fr x) = sh (.bl true) := ins_tt
  have e2 : bltV "len" [fr x] = sh (.int 2) := rfl
  unfold mm__law_is_fraction
  simp only [e, e2, fr0, fr1, sh_bind, ob_some, truth_bl, om_some, Bool.not_true, Bool.false_eq_true, if_false, cmp_ne, eqD_int, decide_true, hi, List.append_nil, cl1_sh, cmp_lt, hd, decide_false,
    hc x.num x.den (den_ne x) (by simpa using Nat.le_trans hn h), divInt_self', cmpV_def, cmp_eq, eqD_fr]
  rfl
/-- the drawing -/
theorem s_lcell (C : Cl) (ns : List Int) : mm__law_cell C (.lst (ns.map .int)) (.int 0) = sh (.int ((ns.head?.getD 0).natAbs : Int)) := by
  unfold mm__law_cell
  cases ns with
  | nil => simp
  | cons n ns =>
    have : (0 : Int) < ((n :: ns).map PV.int).length := by simp
    simp only [len_lst, sh_bind, cmp_lt, this, decide_true, ob_some, if_true]
    simp
    rfl
theorem s_lcellk (C : Cl) (ns : List Int) (k : Nat) : mm__law_cell C (.lst (ns.map .int)) (.int k) = sh (.int ((ns.getD k 0).natAbs : Int)) := by
  unfold mm__law_cell
  simp only [len_lst, sh_bind, cmp_lt, ob_some, List.length_map]
  by_cases h : k < ns.length
  · have h' : (k : Int) < (ns.length : Int) := by omega
    have e : ix (.lst (ns.map .int)) (.int k) = sh (.int ns[k]) := ixL (by simp [h])
    simp only [h', decide_true, if_true, e, sh_bind, ob_some, int_int, abs_int]
    simp [h]
    rfl
  · have h' : ¬ (k : Int) < (ns.length : Int) := by omega
    simp only [h', decide_false, Bool.false_eq_true, if_false]
    simp [h]
theorem mulOk_of {i j : Int} (a b : Nat) (hi : i.natAbs < 2 ^ a) (hj : j.natAbs < 2 ^ b) (ha : 0 < a) (hb : 0 < b) (h : a + b ≤ 1000000) : mulOk i j = true :=
  mulOk_nb (by have := nb_le hi ha; have := nb_le hj hb; omega)
theorem pow18 : op2 .Pow (.int 10) (.int 18) = sh (.int (10 ^ 18)) := nr rfl
def mix (cell k base : Int) : Int := (((cell % 1000003 * 48271 + k * 69621 + cell / 1000003) % 2147483647 * 16807 + k * 12345 + 99991) % 2147483629) / 7 % base
theorem s_lrow (C : Cl) (cell size base : Nat) (hs : size ≤ 1000) (hb : 0 < base) (hb2 : base < 2 ^ 60) :
    ∃ f : Nat → Int, (∀ i, 0 ≤ f i ∧ f i < base) ∧ mm__law_row C (.int cell) (.int size) (.int base) = some (.lst (rl size fun i => .int (f i)), true) := by
  by_cases hc : (10 ^ 18 : Int) ≤ cell
  · refine ⟨fun i => ((cell / base ^ i : Nat) : Int) % base, fun i => ⟨Int.emod_nonneg _ (by omega), Int.emod_lt_of_pos _ (by omega)⟩, ?_⟩
    unfold mm__law_row
    simp only [jn_def, rng1_ok (show size ≤ 1000000 by omega), ob_some]
    rw [forC_rng size (fun k => (rl k fun i => .int (((cell / base ^ i : Nat) : Int) % base), PV.int (cell / base ^ k : Nat))) (by simp)]
    intro k hk kn kb
    simp only [pow18, sh_bind, cmp_ge, hc, decide_true, ob_some, if_true, int_int]
    rw [op2_mods (by omega), sh_bind, push_rl (by omega) rfl, ob_some, op2_divs (by omega) (by omega), sh_bind]
    congr 3
    show PV.int _ = PV.int _
    congr 1
    rw [Nat.pow_succ, ← Nat.div_div_eq_div_mul]
    simp
  · refine ⟨fun i => mix cell i base, fun i => ⟨Int.emod_nonneg _ (by omega), Int.emod_lt_of_pos _ (by omega)⟩, ?_⟩
    unfold mm__law_row
    simp only [jn_def, rng1_ok (show size ≤ 1000000 by omega), ob_some]
    rw [forC_rng size (fun k => (rl k fun i => .int (mix cell i base), PV.int cell)) (by simp)]
    intro k hk kn kb
    simp only [pow18, sh_bind, cmp_ge, hc, decide_false, ob_some, Bool.false_eq_true, if_false, int_int]
    rw [op2_mods (by omega), sh_bind, op2_mul (mulOk_of 60 60 (by have := Int.emod_lt_of_pos (cell : Int) (b := 1000003) (by omega); have := Int.emod_nonneg (cell : Int) (b := 1000003) (by omega); omega) (by omega) (by omega) (by omega) (by omega)), sh_bind,
      op2_mul (mulOk_of 60 60 (by omega) (by omega) (by omega) (by omega) (by omega)), sh_bind, op2_add, sh_bind, op2_divs (by omega) (by omega), sh_bind, op2_add, sh_bind, op2_mods (by omega), sh_bind]
    generalize hm : (((cell : Int) % 1000003 * 48271 + k * 69621 + cell / 1000003) % 2147483647) = m
    have m1 : 0 ≤ m := by rw [← hm]; exact Int.emod_nonneg _ (by omega)
    have m2 : m < 2147483647 := by rw [← hm]; exact Int.emod_lt_of_pos _ (by omega)
    rw [op2_mul (mulOk_of 60 60 (by omega) (by omega) (by omega) (by omega) (by omega)), sh_bind, op2_mul (mulOk_of 60 60 (by omega) (by omega) (by omega) (by omega) (by omega)), sh_bind, op2_add, sh_bind, op2_add, sh_bind, op2_mods (by omega), sh_bind,
      op2_divs (by omega) (by omega), sh_bind, op2_mods (by omega), sh_bind, push_rl (by omega) (by simp only [mix, hm]), ob_some]
end Pv

/-! Part W: the end of a row; the defs that hold generator expressions bring their tables -/
namespace Pv
open PySem L2 PySem.Spec PyProof.Rows
theorem genD_of {K : PySem.W.Frag} {h : Heap} {mg : Str → Option Value} {g : Str} {c P : Addr} (X : K.In h) (G : h.Ns mainGlobals mg) (ht : PySem.W.tabIn K g = some (c, P)) :
    ∃ f oc od fdd osl, mg g = some (.ref f) ∧ K.lookup f = some ⟨oc, od, .func fdd, osl⟩ ∧ fdd.code = .ref c := by
  unfold PySem.W.tabIn at ht
  split at ht
  · rename_i f hf
    have e1 := PySem.W.mg_of X G hf
    split at ht
    · rename_i oc od fdd osl hfo
      split at ht
      · rename_i c₂ hc
        split at ht
        · split at ht
          · cases ht
            exact ⟨f, oc, od, fdd, osl, e1, hfo, hc⟩
          · cases ht
        · cases ht
      · cases ht
    · cases ht
  · cases ht
/-- the defs that hold generator expressions -/
def Pg.gens (p : Pg) : List Str := (p.defsL.filter fun q => q.2.gen).map (·.1)
theorem gens_ok {K : PySem.W.Frag} {h : Heap} {mg : Str → Option Value} {p : Pg} {cs : List (Addr × Addr)} (X : K.In h) (G : h.Ns mainGlobals mg) (h1 : mg "all" = none) (h2 : mg "any" = none)
    (hc : ∀ g ∈ p.gens, ∃ q ∈ cs, PySem.W.tabIn K g = some q) : GensOk K mg p cs := fun g fd e e2 => by
  obtain ⟨q, hq, ht⟩ := hc g (List.mem_map.mpr ⟨(g, fd), List.mem_filter.mpr ⟨PySem.mem_of_lookup e, e2⟩, rfl⟩)
  obtain ⟨f, oc, od, fdd, osl, a1, a2, a3⟩ := genD_of X G (c := q.1) (P := q.2) ht
  exact ⟨h1, h2, q, hq, f, oc, od, fdd, osl, a1, a2, a3⟩
/-- what the walk asks of the row's facts -/
def RowOk (K : PySem.W.Frag) (mg : Str → Option Value) (p : Pg) (dl : FD) (fa : Addr) : Prop :=
  ∃ fd, DefOk K mg "law" dl fa fd ∧ PgOk K mg p ∧ (∀ (s : Shared) (v : Value), BindsTo s fd ⟨[v], []⟩ [("script", v)])
def TabsOk (K : PySem.W.Frag) (p : Pg) (cs : List (Addr × Addr)) : Prop := (∀ q ∈ cs, K.lookup q.2 = none ∧ ∃ g, g ∈ p.gens ∧ PySem.W.tabIn K g = some q) ∧ ∀ g ∈ p.gens, ∃ q ∈ cs, PySem.W.tabIn K g = some q
theorem walk_tabs {p : Pg} {dl : FD} (hd : p.defs "law" = some dl) (hps : dl.ps = [("script" : Str)]) (hlaw : ∀ ns : List Int, ns.length ≤ 63 → run p 20 "law" [.lst (ns.map .int)] = some (.bl true, false))
    {l : PySem.W.OpenLaw} {q : Program} {loose : List Str} {XP : (Str → Option Value) → Heap → Prop} {YP : World → Heap → Prop} {r : DefRec} {K : Params → PySem.W.Frag} (hn : l.most = some 63) (hdf : r.params.defaults = [])
    (hrec : (p.gens.all fun g => ((recsOf q).find? fun e => e.name == g).isSome) = true)
    (hY : ∀ (w : World) (h : Heap), YP w h → (K w.params).In h)
    (F : ∀ (w : World) (mg : Str → Option Value) (fa : Addr) (h : Heap), (K w.params).In h → h.Ns mainGlobals mg → mg r.name = some (.ref fa) → RowOk (K w.params) mg p dl fa ∧ mg "all" = none ∧ mg "any" = none ∧ ∃ cs, TabsOk (K w.params) p cs) :
    PySem.W.WalkO q loose XP YP l.row.toRowW r [] (fun f vs => PySem.call f vs) := by
  refine Att.attach_callB hn hdf fun w s₀ s₁ mg mb fa o pm cd doc a vs ns G Y ho hd' hcd hmg hobj hints hlen hbits hg => ?_
  have KX := hY w _ Y
  obtain ⟨⟨fd, D, O, B⟩, hall, hany, cs, hcs, hgs⟩ := F w mg fa _ KX G.T.g hmg
  have tab : ∀ p ∈ cs, PySem.W.CodeHd s₁.heap p.1 p.2 ∧ s₁.heap.get? p.2 = some { cls := .none, data := .fields #[] } := fun p hp => by
    obtain ⟨_, g, hg, ht⟩ := hcs p hp
    have hr := List.all_eq_true.mp hrec g hg
    obtain ⟨d, hd⟩ := Option.isSome_iff_exists.mp hr
    exact PySem.W.tab_of (c := p.1) (P := p.2) G.T KX hd ht
  refine LamX.law_callTs (k := 40) (cs := cs) (x := "script") (CX := CX0) (sp := spOf (K w.params) (cs.map (·.2)) 1 (run p 20 "law")) KX G.T.g G.T.b G.T.builtins G.T.nolimit hg (fun p hp => (tab p hp).2) (fun p hp => (hcs p hp).1) (fun p hp => (tab p hp).1) G.T.bmain hobj hints (Nat.le_trans hlen (by decide)) ⟨rfl, by decide, by decide⟩
    (fun base hK hG hT => law_endG (d := 20) O (gens_ok KX G.T.g hall hany hgs) hK hG (fun q hq => ⟨(hT q hq).code, (hT q hq).bm, (hT q hq).gP⟩) hd D hps) B (fun H hH hS => law_spB (fun P hP => ?_) (hlaw ns hlen) hS) fun H e s' z => z
  obtain ⟨q, hq, rfl⟩ := List.mem_map.mp hP
  exact ⟨#[], hH q hq, by first | trivial | simp [TriplesOk] | exact nofun⟩
end Pv
namespace Pv
open PySem L2 PySem.Spec PyProof.Rows
theorem tabIn_of {K : PySem.W.Frag} {g : Str} {f c P : Addr} {oc oc2 : Value} {od od2 : Option Addr} {fd : FuncData} {sl sl2 : Array (Option Value)} {vs : Array Value} (a : PySem.W.nsIn K mainGlobals g = some (some (.ref f))) (l : K.lookup f = some ⟨oc, od, .func fd, sl⟩)
    (e : fd.code = .ref c) (q : K.lookup c = some ⟨oc2, od2, .fields vs, sl2⟩) (v : (vs[11]? : Option Value) = some (.ref P)) : PySem.W.tabIn K g = some (c, P) := by
  unfold PySem.W.tabIn
  simp only [a, l, e, q, v]
end Pv


/-! ## the text by places -/
namespace K66
open PySem L2 Pv
def top (i : Nat) : Stmt := PySem.Challenge.pw_trueshop_k66_polygons_without_others.main.body.getD i (.Pass ⟨0, 0, 0, 0⟩)
def d_common_numbers : FD := ⟨["a", "b"], ["a", "b"], defScope (top 4), defBody (top 4), [(2, [])], [], false, false⟩
def d_fraction : FD := ⟨["number", "divisor", "shared"], ["number", "divisor"], defScope (top 6), defBody (top 6), [(2, [])], [], false, false⟩
def d_plus : FD := ⟨["a", "b"], ["a", "b"], defScope (top 7), defBody (top 7), [(2, [])], [], false, false⟩
def d_minus : FD := ⟨["a", "b"], ["a", "b"], defScope (top 8), defBody (top 8), [(2, [])], [], false, false⟩
def d_times : FD := ⟨["a", "b"], ["a", "b"], defScope (top 9), defBody (top 9), [(2, [])], [], false, false⟩
def d_over : FD := ⟨["a", "b"], ["a", "b"], defScope (top 10), defBody (top 10), [(2, [])], [], false, false⟩
def d_less : FD := ⟨["a", "b"], ["a", "b"], defScope (top 11), defBody (top 11), [(2, [])], [], false, false⟩
def d_sign : FD := ⟨["a"], ["a"], defScope (top 12), defBody (top 12), [(1, [])], [], false, false⟩
def d_turn : FD := ⟨["a", "b", "c", "across"], ["a", "b", "c"], defScope (top 14), defBody (top 14), [(3, [])], [], false, false⟩
def d_smaller : FD := ⟨["a", "b"], ["a", "b"], defScope (top 15), defBody (top 15), [(2, [])], [], false, false⟩
def d_put_in : FD := ⟨["point", "row", "at"], ["point", "row"], defScope (top 17), defBody (top 17), [(2, [])], [], false, false⟩
def d_chain : FD := ⟨["row", "found", "point"], ["row"], defScope (top 18), defBody (top 18), [(1, [])], [], true, false⟩
def d_hull : FD := ⟨["points", "row", "point", "found"], ["points"], defScope (top 19), defBody (top 19), [(1, [])], [], false, false⟩
def d_size_of : FD := ⟨["polygon", "found", "k"], ["polygon"], defScope (top 20), defBody (top 20), [(1, [])], [], false, false⟩
def d_crossing : FD := ⟨["a", "b", "at_a", "at_b", "part", "k"], ["a", "b", "at_a", "at_b"], defScope (top 21), defBody (top 21), [(4, [])], [], false, false⟩
def d_left_of : FD := ⟨["polygon", "start", "end", "amounts", "found", "k", "other", "point"], ["polygon", "start", "end"], defScope (top 22), defBody (top 22), [(3, [])], [], false, false⟩
def d_sides_of : FD := ⟨["polygon", "k"], ["polygon"], defScope (top 23), defBody (top 23), [(1, [])], [], true, false⟩
def d_common_polygons : FD := ⟨["polygon", "other", "found", "start", "end"], ["polygon", "other"], defScope (top 24), defBody (top 24), [(2, [])], [], false, false⟩
def d_cut_out : FD := ⟨["polygon", "other", "found", "rest", "start", "end", "outside"], ["polygon", "other"], defScope (top 26), defBody (top 26), [(2, [])], [], true, false⟩
def d_without : FD := ⟨["polygon", "others", "pieces", "other", "found", "piece", "rest"], ["polygon", "others"], defScope (top 27), defBody (top 27), [(2, [])], [], false, false⟩
def d__law_cell : FD := ⟨["script", "k"], ["script", "k"], defScope (top 29), defBody (top 29), [(2, [])], [], false, false⟩
def d__law_row : FD := ⟨["cell", "size", "base", "row", "number", "k", "mixed"], ["cell", "size", "base"], defScope (top 30), defBody (top 30), [(3, [])], [], true, false⟩
def d__law_fraction : FD := ⟨["number", "divisor", "a", "b", "k"], ["number", "divisor"], defScope (top 31), defBody (top 31), [(2, [])], [], false, false⟩
def d__law_plus : FD := ⟨["a", "b"], ["a", "b"], defScope (top 32), defBody (top 32), [(2, [])], [], false, false⟩
def d__law_minus : FD := ⟨["a", "b"], ["a", "b"], defScope (top 33), defBody (top 33), [(2, [])], [], false, false⟩
def d__law_times : FD := ⟨["a", "b"], ["a", "b"], defScope (top 34), defBody (top 34), [(2, [])], [], false, false⟩
def d__law_over : FD := ⟨["a", "b"], ["a", "b"], defScope (top 35), defBody (top 35), [(2, [])], [], false, false⟩
def d__law_less : FD := ⟨["a", "b"], ["a", "b"], defScope (top 36), defBody (top 36), [(2, [])], [], false, false⟩
def d__law_middle : FD := ⟨["a", "b"], ["a", "b"], defScope (top 37), defBody (top 37), [(2, [])], [], false, false⟩
def d__law_turn : FD := ⟨["a", "b", "c", "left"], ["a", "b", "c"], defScope (top 38), defBody (top 38), [(3, [])], [], false, false⟩
def d__law_is_side : FD := ⟨["points", "a", "b", "c", "found", "k"], ["points", "a", "b"], defScope (top 39), defBody (top 39), [(3, [])], [], false, false⟩
def d__law_hull : FD := ⟨["points", "after", "a", "row", "k", "b", "c"], ["points"], defScope (top 40), defBody (top 40), [(1, [])], [], true, false⟩
def d__law_other : FD := ⟨["points", "point"], ["points"], defScope (top 41), defBody (top 41), [(1, [])], [], false, false⟩
def d__law_least : FD := ⟨["points", "best", "point"], ["points"], defScope (top 42), defBody (top 42), [(1, [])], [], false, false⟩
def d__law_twice : FD := ⟨["polygon", "found", "k"], ["polygon"], defScope (top 43), defBody (top 43), [(1, [])], [], false, false⟩
def d__law_clip : FD := ⟨["polygon", "start", "end", "found", "k", "a", "b", "one", "other", "part", "j"], ["polygon", "start", "end"], defScope (top 44), defBody (top 44), [(3, [])], [], true, false⟩
def d__law_shared : FD := ⟨["polygons", "found", "other", "k"], ["polygons"], defScope (top 45), defBody (top 45), [(1, [])], [], false, false⟩
def d__law_points : FD := ⟨["script", "found", "k", "draw", "divisor", "point", "j"], ["script"], defScope (top 46), defBody (top 46), [(1, [])], [], true, false⟩
def d__law_shoelace : FD := ⟨["row", "found", "k", "a", "b"], ["row"], defScope (top 47), defBody (top 47), [(1, [])], [], false, false⟩
def d__law_right_hull : FD := ⟨["points", "due", "handed", "found"], ["points"], defScope (top 48), defBody (top 48), [(1, [])], [], false, false⟩
def d__law_drawn : FD := ⟨["cell", "draw", "found", "k", "row", "divisor"], ["cell"], defScope (top 49), defBody (top 49), [(1, [])], [], true, false⟩
def d__law_is_left : FD := ⟨["row", "start", "end", "point"], ["row", "start", "end"], defScope (top 50), defBody (top 50), [(3, [])], [], false, false⟩
def d_law : FD := ⟨["script", "first", "others", "draw", "start", "end", "one", "other", "due", "polygon", "handed", "k"], ["script"], defScope (top 51), defBody (top 51), [(1, [])], [], false, false⟩
def prog : Pg := ⟨[(("common_numbers" : Str), d_common_numbers), (("fraction" : Str), d_fraction), (("plus" : Str), d_plus), (("minus" : Str), d_minus), (("times" : Str), d_times), (("over" : Str), d_over), (("less" : Str), d_less), (("sign" : Str), d_sign), (("turn" : Str), d_turn), (("smaller" : Str), d_smaller), (("put_in" : Str), d_put_in), (("chain" : Str), d_chain), (("hull" : Str), d_hull), (("size_of" : Str), d_size_of), (("crossing" : Str), d_crossing), (("left_of" : Str), d_left_of), (("sides_of" : Str), d_sides_of), (("common_polygons" : Str), d_common_polygons), (("cut_out" : Str), d_cut_out), (("without" : Str), d_without), (("_law_cell" : Str), d__law_cell), (("_law_row" : Str), d__law_row), (("_law_fraction" : Str), d__law_fraction), (("_law_plus" : Str), d__law_plus), (("_law_minus" : Str), d__law_minus), (("_law_times" : Str), d__law_times), (("_law_over" : Str), d__law_over), (("_law_less" : Str), d__law_less), (("_law_middle" : Str), d__law_middle), (("_law_turn" : Str), d__law_turn), (("_law_is_side" : Str), d__law_is_side), (("_law_hull" : Str), d__law_hull), (("_law_other" : Str), d__law_other), (("_law_least" : Str), d__law_least), (("_law_twice" : Str), d__law_twice), (("_law_clip" : Str), d__law_clip), (("_law_shared" : Str), d__law_shared), (("_law_points" : Str), d__law_points), (("_law_shoelace" : Str), d__law_shoelace), (("_law_right_hull" : Str), d__law_right_hull), (("_law_drawn" : Str), d__law_drawn), (("_law_is_left" : Str), d__law_is_left), (("law" : Str), d_law)], [], [((53, 4), [(2, false)]), ((60, 4), [(2, false), (1, true)]), ((66, 4), [(2, false)]), ((75, 4), [(5, false), (6, false), (3, true)]), ((86, 4), [(3, false), (4, false)]), ((96, 4), [(4, false), (5, false), (6, false)]), ((104, 4), [(3, false), (5, false), (6, false), (2, true)]), ((106, 8), [(5, false), (6, true)]), ((110, 4), [(5, false)]), ((121, 4), [(5, false), (6, false)]), ((133, 4), [(4, false)]), ((156, 4), [(3, false), (4, false), (5, false)]), ((161, 12), [(5, false)]), ((171, 4), [(2, false), (5, false)]), ((172, 8), [(5, false)]), ((176, 4), [(4, false)]), ((182, 4), [(1, false)]), ((188, 4), [(2, false)]), ((194, 4), [(2, false)]), ((199, 4), [(4, false), (5, false), (6, false), (7, false), (8, false), (9, false)]), ((212, 4), [(2, false), (3, false)]), ((213, 8), [(3, false), (1, true)]), ((219, 4), [(2, false), (3, false), (4, false), (5, false)]), ((231, 4), [(2, false), (3, false), (4, false)]), ((250, 4), [(3, false), (5, false)]), ((258, 4), [(3, false)]), ((279, 4), [(9, false)])], [(61, 8), (80, 12), (81, 4), (107, 12), (221, 8), (241, 4), (246, 4), (268, 4), (270, 4), (286, 4)], 40, 40, 100000⟩
theorem sc_common_numbers : FnScope d_common_numbers.N d_common_numbers.ps d_common_numbers.sc := ⟨rfl, rfl, rfl, by decide +kernel, rfl, by decide +kernel, by decide +kernel⟩
theorem sc_fraction : FnScope d_fraction.N d_fraction.ps d_fraction.sc := ⟨rfl, rfl, rfl, by decide +kernel, rfl, by decide +kernel, by decide +kernel⟩
theorem sc_plus : FnScope d_plus.N d_plus.ps d_plus.sc := ⟨rfl, rfl, rfl, by decide +kernel, rfl, by decide +kernel, by decide +kernel⟩
theorem sc_minus : FnScope d_minus.N d_minus.ps d_minus.sc := ⟨rfl, rfl, rfl, by decide +kernel, rfl, by decide +kernel, by decide +kernel⟩
theorem sc_times : FnScope d_times.N d_times.ps d_times.sc := ⟨rfl, rfl, rfl, by decide +kernel, rfl, by decide +kernel, by decide +kernel⟩
theorem sc_over : FnScope d_over.N d_over.ps d_over.sc := ⟨rfl, rfl, rfl, by decide +kernel, rfl, by decide +kernel, by decide +kernel⟩
theorem sc_less : FnScope d_less.N d_less.ps d_less.sc := ⟨rfl, rfl, rfl, by decide +kernel, rfl, by decide +kernel, by decide +kernel⟩
theorem sc_sign : FnScope d_sign.N d_sign.ps d_sign.sc := ⟨rfl, rfl, rfl, by decide +kernel, rfl, by decide +kernel, by decide +kernel⟩
theorem sc_turn : FnScope d_turn.N d_turn.ps d_turn.sc := ⟨rfl, rfl, rfl, by decide +kernel, rfl, by decide +kernel, by decide +kernel⟩
theorem sc_smaller : FnScope d_smaller.N d_smaller.ps d_smaller.sc := ⟨rfl, rfl, rfl, by decide +kernel, rfl, by decide +kernel, by decide +kernel⟩
theorem sc_put_in : FnScope d_put_in.N d_put_in.ps d_put_in.sc := ⟨rfl, rfl, rfl, by decide +kernel, rfl, by decide +kernel, by decide +kernel⟩
theorem sc_chain : FnScope d_chain.N d_chain.ps d_chain.sc := ⟨rfl, rfl, rfl, by decide +kernel, rfl, by decide +kernel, by decide +kernel⟩
theorem sc_hull : FnScope d_hull.N d_hull.ps d_hull.sc := ⟨rfl, rfl, rfl, by decide +kernel, rfl, by decide +kernel, by decide +kernel⟩
theorem sc_size_of : FnScope d_size_of.N d_size_of.ps d_size_of.sc := ⟨rfl, rfl, rfl, by decide +kernel, rfl, by decide +kernel, by decide +kernel⟩
theorem sc_crossing : FnScope d_crossing.N d_crossing.ps d_crossing.sc := ⟨rfl, rfl, rfl, by decide +kernel, rfl, by decide +kernel, by decide +kernel⟩
theorem sc_left_of : FnScope d_left_of.N d_left_of.ps d_left_of.sc := ⟨rfl, rfl, rfl, by decide +kernel, rfl, by decide +kernel, by decide +kernel⟩
theorem sc_sides_of : FnScope d_sides_of.N d_sides_of.ps d_sides_of.sc := ⟨rfl, rfl, rfl, by decide +kernel, rfl, by decide +kernel, by decide +kernel⟩
theorem sc_common_polygons : FnScope d_common_polygons.N d_common_polygons.ps d_common_polygons.sc := ⟨rfl, rfl, rfl, by decide +kernel, rfl, by decide +kernel, by decide +kernel⟩
theorem sc_cut_out : FnScope d_cut_out.N d_cut_out.ps d_cut_out.sc := ⟨rfl, rfl, rfl, by decide +kernel, rfl, by decide +kernel, by decide +kernel⟩
theorem sc_without : FnScope d_without.N d_without.ps d_without.sc := ⟨rfl, rfl, rfl, by decide +kernel, rfl, by decide +kernel, by decide +kernel⟩
theorem sc__law_cell : FnScope d__law_cell.N d__law_cell.ps d__law_cell.sc := ⟨rfl, rfl, rfl, by decide +kernel, rfl, by decide +kernel, by decide +kernel⟩
theorem sc__law_row : FnScope d__law_row.N d__law_row.ps d__law_row.sc := ⟨rfl, rfl, rfl, by decide +kernel, rfl, by decide +kernel, by decide +kernel⟩
theorem sc__law_fraction : FnScope d__law_fraction.N d__law_fraction.ps d__law_fraction.sc := ⟨rfl, rfl, rfl, by decide +kernel, rfl, by decide +kernel, by decide +kernel⟩
theorem sc__law_plus : FnScope d__law_plus.N d__law_plus.ps d__law_plus.sc := ⟨rfl, rfl, rfl, by decide +kernel, rfl, by decide +kernel, by decide +kernel⟩
theorem sc__law_minus : FnScope d__law_minus.N d__law_minus.ps d__law_minus.sc := ⟨rfl, rfl, rfl, by decide +kernel, rfl, by decide +kernel, by decide +kernel⟩
theorem sc__law_times : FnScope d__law_times.N d__law_times.ps d__law_times.sc := ⟨rfl, rfl, rfl, by decide +kernel, rfl, by decide +kernel, by decide +kernel⟩
theorem sc__law_over : FnScope d__law_over.N d__law_over.ps d__law_over.sc := ⟨rfl, rfl, rfl, by decide +kernel, rfl, by decide +kernel, by decide +kernel⟩
theorem sc__law_less : FnScope d__law_less.N d__law_less.ps d__law_less.sc := ⟨rfl, rfl, rfl, by decide +kernel, rfl, by decide +kernel, by decide +kernel⟩
theorem sc__law_middle : FnScope d__law_middle.N d__law_middle.ps d__law_middle.sc := ⟨rfl, rfl, rfl, by decide +kernel, rfl, by decide +kernel, by decide +kernel⟩
theorem sc__law_turn : FnScope d__law_turn.N d__law_turn.ps d__law_turn.sc := ⟨rfl, rfl, rfl, by decide +kernel, rfl, by decide +kernel, by decide +kernel⟩
theorem sc__law_is_side : FnScope d__law_is_side.N d__law_is_side.ps d__law_is_side.sc := ⟨rfl, rfl, rfl, by decide +kernel, rfl, by decide +kernel, by decide +kernel⟩
theorem sc__law_hull : FnScope d__law_hull.N d__law_hull.ps d__law_hull.sc := ⟨rfl, rfl, rfl, by decide +kernel, rfl, by decide +kernel, by decide +kernel⟩
theorem sc__law_other : FnScope d__law_other.N d__law_other.ps d__law_other.sc := ⟨rfl, rfl, rfl, by decide +kernel, rfl, by decide +kernel, by decide +kernel⟩
theorem sc__law_least : FnScope d__law_least.N d__law_least.ps d__law_least.sc := ⟨rfl, rfl, rfl, by decide +kernel, rfl, by decide +kernel, by decide +kernel⟩
theorem sc__law_twice : FnScope d__law_twice.N d__law_twice.ps d__law_twice.sc := ⟨rfl, rfl, rfl, by decide +kernel, rfl, by decide +kernel, by decide +kernel⟩
theorem sc__law_clip : FnScope d__law_clip.N d__law_clip.ps d__law_clip.sc := ⟨rfl, rfl, rfl, by decide +kernel, rfl, by decide +kernel, by decide +kernel⟩
theorem sc__law_shared : FnScope d__law_shared.N d__law_shared.ps d__law_shared.sc := ⟨rfl, rfl, rfl, by decide +kernel, rfl, by decide +kernel, by decide +kernel⟩
theorem sc__law_points : FnScope d__law_points.N d__law_points.ps d__law_points.sc := ⟨rfl, rfl, rfl, by decide +kernel, rfl, by decide +kernel, by decide +kernel⟩
theorem sc__law_shoelace : FnScope d__law_shoelace.N d__law_shoelace.ps d__law_shoelace.sc := ⟨rfl, rfl, rfl, by decide +kernel, rfl, by decide +kernel, by decide +kernel⟩
theorem sc__law_right_hull : FnScope d__law_right_hull.N d__law_right_hull.ps d__law_right_hull.sc := ⟨rfl, rfl, rfl, by decide +kernel, rfl, by decide +kernel, by decide +kernel⟩
theorem sc__law_drawn : FnScope d__law_drawn.N d__law_drawn.ps d__law_drawn.sc := ⟨rfl, rfl, rfl, by decide +kernel, rfl, by decide +kernel, by decide +kernel⟩
theorem sc__law_is_left : FnScope d__law_is_left.N d__law_is_left.ps d__law_is_left.sc := ⟨rfl, rfl, rfl, by decide +kernel, rfl, by decide +kernel, by decide +kernel⟩
theorem sc_law : FnScope d_law.N d_law.ps d_law.sc := ⟨rfl, rfl, rfl, by decide +kernel, rfl, by decide +kernel, by decide +kernel⟩
end K66

namespace K66
open PySem L2 Pv
def mm_common_numbers (C : Str → List PV → Out) (v_a v_b : PV) : Out :=
  jn (fun (s2 : PV × PV) => jn (fun (s6 : PV × PV) => some (s6.1, false)) fun j5 => whC (fun (s7 : PV × PV) => cmp .Gt s7.2 (.int 0)) (fun (s7 : PV × PV) k9 k10 => (op2 .Mod s7.1 s7.2).bind fun p11 => k9 (s7.2, p11.1)) (fun (s12 : PV × PV) => j5 (s12.1, s12.2)) 100000 (s2.1, s2.2)) fun j1 => (bltV "abs" [v_a]).bind fun p3 => (bltV "abs" [v_b]).bind fun p4 => j1 (p3.1, p4.1)
def mm_fraction (C : Str → List PV → Out) (v_number v_divisor : PV) : Out :=
  jn (fun (s2 : PV) => jn (fun (s6 : PV) => (((op2 .FloorDiv v_number s6).bind fun p10 => ((op2 .FloorDiv v_divisor s6).bind fun p9 => some [p9.1]).map fun q11 => p10.1 :: q11).bind fun q12 => sh (.tup q12)).bind fun p13 => some (p13.1, p13.2)) fun j5 => (cmp .Lt v_divisor (.int 0)).bind fun t8 => if t8 then (neg1 s2).bind fun p7 => j5 p7.1 else j5 s2) fun j1 => (cmp .Eq v_divisor (.int 0)).bind fun t3 => if t3 then none else (cl1 (C "common_numbers" [v_number, v_divisor])).bind fun p4 => j1 p4.1
def mm_over (C : Str → List PV → Out) (v_a v_b : PV) : Out :=
  ((((ix v_a (.int 0)).bind fun p1 => (ix v_b (.int 1)).bind fun p2 => op2 .Mult p1.1 p2.1).bind fun p6 => (((ix v_a (.int 1)).bind fun p3 => (ix v_b (.int 0)).bind fun p4 => op2 .Mult p3.1 p4.1).bind fun p5 => some [p5.1]).map fun q7 => p6.1 :: q7).bind fun q8 => cl1 (C "fraction" (q8 ++ []))).bind fun p9 => some (p9.1, p9.2)
def mm_turn (C : Str → List PV → Out) (v_a v_b v_c : PV) : Out :=
  (((((ix v_b (.int 0)).bind fun p2 => ((ix v_a (.int 0)).bind fun p1 => some [p1.1]).map fun q3 => p2.1 :: q3).bind fun q4 => cl1 (C "minus" (q4 ++ []))).bind fun p10 => ((((ix v_c (.int 1)).bind fun p6 => ((ix v_a (.int 1)).bind fun p5 => some [p5.1]).map fun q7 => p6.1 :: q7).bind fun q8 => cl1 (C "minus" (q8 ++ []))).bind fun p9 => some [p9.1]).map fun q11 => p10.1 :: q11).bind fun q12 => cl1 (C "times" (q12 ++ []))).bind fun p13 => ((((((((ix v_b (.int 1)).bind fun p15 => ((ix v_a (.int 1)).bind fun p14 => some [p14.1]).map fun q16 => p15.1 :: q16).bind fun q17 => cl1 (C "minus" (q17 ++ []))).bind fun p23 => ((((ix v_c (.int 0)).bind fun p19 => ((ix v_a (.int 0)).bind fun p18 => some [p18.1]).map fun q20 => p19.1 :: q20).bind fun q21 => cl1 (C "minus" (q21 ++ []))).bind fun p22 => some [p22.1]).map fun q24 => p23.1 :: q24).bind fun q25 => cl1 (C "times" (q25 ++ []))).bind fun p26 => some [p26.1]).map fun q27 => p13.1 :: q27).bind fun q28 => cl1 (C "minus" (q28 ++ []))).bind fun p29 => some (p29.1, p29.2)
def mm_smaller (C : Str → List PV → Out) (v_a v_b : PV) : Out :=
  ((((ix v_a (.int 0)).bind fun p2 => ((ix v_b (.int 0)).bind fun p1 => some [p1.1]).map fun q3 => p2.1 :: q3).bind fun q4 => cl1 (C "less" (q4 ++ []))).bind fun p6 => (blOf p6.1).bind fun b5 => if b5 then sh (.bl true) else ((ix v_a (.int 0)).bind fun p7 => (ix v_b (.int 0)).bind fun p8 => cmpV .Eq p7.1 p8.1).bind fun p10 => (blOf p10.1).bind fun b9 => if b9 then ((ix v_a (.int 1)).bind fun p12 => ((ix v_b (.int 1)).bind fun p11 => some [p11.1]).map fun q13 => p12.1 :: q13).bind fun q14 => cl1 (C "less" (q14 ++ [])) else sh (.bl false)).bind fun p15 => some (p15.1, p15.2)
def mm_put_in (C : Str → List PV → Out) (v_point v_row : PV) : Out :=
  jn (fun (s2 : PV) => jn (fun (s4 : PV) => (((bltV "len" [v_row]).bind fun p23 => cmp .Lt s4 p23.1).bind fun b24 => if b24 then (ix v_row s4).bind fun p25 => cmp .Eq p25.1 v_point else some false).bind fun t16 => if t16 then some (v_row, false) else ((((intO s4).bind fun l17 => sl v_row none l17).bind fun p18 => op2 .Add p18.1 (.lst [v_point])).bind fun p19 => ((intO s4).bind fun l20 => sl v_row l20 none).bind fun p21 => op2 .Add p19.1 p21.1).bind fun p22 => some (p22.1, p22.2)) fun j3 => whC (fun (s5 : PV) => ((bltV "len" [v_row]).bind fun p11 => cmp .Lt s5 p11.1).bind fun b12 => if b12 then (((ix v_row s5).bind fun p13 => some [p13.1, v_point]).bind fun q14 => cl1 (C "smaller" (q14 ++ []))).bind fun p15 => truth p15.1 else some false) (fun (s5 : PV) k7 k8 => (op2 .Add s5 (.int 1)).bind fun p9 => k7 p9.1) (fun (s10 : PV) => j3 s10) 100000 s2) fun j1 => j1 (.int 0)
def mm_chain (C : Str → List PV → Out) (v_row : PV) : Out :=
  jn (fun (s2 : List PV) => jn (fun (s4 : List PV) => some (.lst s4, true)) fun j3 => (seqOf v_row).bind fun xs49 => forC (fun x28 (s5 : List PV) k26 k27 => jn (fun (s30 : List PV) => (pushO s30 x28).bind fun ys46 => k26 ys46) fun j29 => whC (fun (s31 : List PV) => ((bltV "len" [(.lst s31)]).bind fun p37 => cmp .Gt p37.1 (.int 1)).bind fun b38 => if b38 then (((((ix (.lst s31) (.int (-2))).bind fun p40 => ((ix (.lst s31) (.int (-1))).bind fun p39 => some [p39.1, x28]).map fun q41 => p40.1 :: q41).bind fun q42 => cl1 (C "turn" (q42 ++ []))).bind fun p43 => some [p43.1]).bind fun q44 => cl1 (C "sign" (q44 ++ []))).bind fun p45 => cmp .LtE p45.1 (.int 0) else some false) (fun (s31 : List PV) k33 k34 => (popO s31).bind fun ys35 => k33 ys35) (fun (s36 : List PV) => j29 s36) 100000 s5) (fun (s48 : List PV) => j3 s48) xs49 s2) fun j1 => j1 []
def mm_hull (C : Str → List PV → Out) (v_points : PV) : Out :=
  jn (fun (s2 : List PV) => jn (fun (s4 : PV) => (((cl2 (C "chain" [s4])).bind fun p17 => sl p17.1 none (some (-1))).bind fun p18 => ((((revL s4).bind fun p19 => some [p19.1]).bind fun q20 => cl2 (C "chain" (q20 ++ []))).bind fun p21 => sl p21.1 none (some (-1))).bind fun p22 => op2 .Add p18.1 p22.1).bind fun p23 => (((bltV "len" [p23.1]).bind fun p25 => cmp .Gt p25.1 (.int 2)).bind fun b24 => if b24 then sh p23.1 else some (.lst [], true)).bind fun p26 => some (p26.1, p26.2)) fun j3 => (seqOf v_points).bind fun xs16 => forC (fun x13 (s8 : PV) k11 k12 => (cl1 (C "put_in" [x13, s8])).bind fun p14 => k11 p14.1) (fun (s15 : PV) => j3 s15) xs16 (.lst s2)) fun j1 => j1 []
def mm_size_of (C : Str → List PV → Out) (v_polygon : PV) : Out :=
  jn (fun (s2 : PV) => jn (fun (s4 : PV) => some (s4, false)) fun j3 => (((bltV "len" [v_polygon]).bind fun p34 => op2 .Sub p34.1 (.int 1)).bind fun p35 => rng2 (.int 1) p35.1).bind fun xs33 => forC (fun x20 (s5 : PV) k18 k19 => ((((((ix v_polygon (.int 0)).bind fun p25 => ((ix v_polygon x20).bind fun p23 => (((op2 .Add x20 (.int 1)).bind fun p21 => ix v_polygon p21.1).bind fun p22 => some [p22.1]).map fun q24 => p23.1 :: q24).map fun q26 => p25.1 :: q26).bind fun q27 => cl1 (C "turn" (q27 ++ []))).bind fun p28 => some [p28.1]).map fun q29 => s5 :: q29).bind fun q30 => cl1 (C "plus" (q30 ++ []))).bind fun p31 => k18 p31.1) (fun (s32 : PV) => j3 s32) xs33 s2) fun j1 => j1 (.tup [(.int 0), (.int 1)])
def mm_crossing (C : Str → List PV → Out) (v_a v_b v_at_a v_at_b : PV) : Out :=
  ((((cl1 (C "minus" [v_at_a, v_at_b])).bind fun p1 => some [p1.1]).map fun q2 => v_at_a :: q2).bind fun q3 => cl1 (C "over" (q3 ++ []))).bind fun p4 => ((((rng1 (.int 2)).bind fun xs7 => (compM (fun x5 => (((ix v_a x5).bind fun p16 => (((((((ix v_b x5).bind fun p9 => ((ix v_a x5).bind fun p8 => some [p8.1]).map fun q10 => p9.1 :: q10).bind fun q11 => cl1 (C "minus" (q11 ++ []))).bind fun p12 => some [p12.1]).map fun q13 => p4.1 :: q13).bind fun q14 => cl1 (C "times" (q14 ++ []))).bind fun p15 => some [p15.1]).map fun q17 => p16.1 :: q17).bind fun q18 => cl1 (C "plus" (q18 ++ []))).bind fun p19 => some (some p19.1)) xs7).bind fun ys6 => some (.lst ys6, true)).bind fun p20 => some [p20.1]).bind fun q21 => bltV "tuple" q21).bind fun p22 => some (p22.1, p22.2)
def mm_left_of (C : Str → List PV → Out) (v_polygon v_start v_end : PV) : Out :=
  jn (fun (s2 : List PV × List PV) => jn (fun (s9 : PV × List PV) => (((bltV "len" [(.lst s9.2)]).bind fun p117 => cmp .Gt p117.1 (.int 2)).bind fun b116 => if b116 then sh (.lst s9.2) else some (.lst [], true)).bind fun p118 => some (p118.1, p118.2)) fun j8 => ((bltV "len" [v_polygon]).bind fun p115 => rng1 p115.1).bind fun xs114 => forC (fun x80 (s44 : List PV) k78 k79 => jn (fun (s82 : PV) => jn (fun (s87 : List PV) => (((((ix (.lst s2.1) x80).bind fun p104 => some [p104.1]).bind fun q105 => cl1 (C "sign" (q105 ++ []))).bind fun p106 => (((ix (.lst s2.1) s82).bind fun p107 => some [p107.1]).bind fun q108 => cl1 (C "sign" (q108 ++ []))).bind fun p109 => op2 .Mult p106.1 p109.1).bind fun p110 => cmp .Lt p110.1 (.int 0)).bind fun t103 => if t103 then (((ix v_polygon x80).bind fun p98 => ((ix v_polygon s82).bind fun p96 => ((ix (.lst s2.1) x80).bind fun p94 => ((ix (.lst s2.1) s82).bind fun p93 => some [p93.1]).map fun q95 => p94.1 :: q95).map fun q97 => p96.1 :: q97).map fun q99 => p98.1 :: q99).bind fun q100 => cl1 (C "crossing" (q100 ++ []))).bind fun p101 => (pushO s87 p101.1).bind fun ys102 => k78 ys102 else k78 s87) fun j86 => (((ix (.lst s2.1) x80).bind fun p91 => ix p91.1 (.int 0)).bind fun p92 => cmp .GtE p92.1 (.int 0)).bind fun t90 => if t90 then (ix v_polygon x80).bind fun p88 => (pushO s44 p88.1).bind fun ys89 => j86 ys89 else j86 s44) fun j81 => ((op2 .Add x80 (.int 1)).bind fun p83 => (bltV "len" [v_polygon]).bind fun p84 => op2 .Mod p83.1 p84.1).bind fun p85 => j81 p85.1) (fun (s113 : List PV) => j8 ((.lst s2.1), s113)) xs114 s2.2) fun j1 => (ownO ((seqOf v_polygon).bind fun xs5 => (compM (fun x3 => (cl1 (C "turn" [v_start, v_end, x3])).bind fun p6 => some (some p6.1)) xs5).bind fun ys4 => some (.lst ys4, true))).bind fun ys7 => j1 (ys7, [])
def mm_sides_of (C : Str → List PV → Out) (v_polygon : PV) : Out :=
  (((bltV "len" [v_polygon]).bind fun p12 => rng1 p12.1).bind fun xs3 => (compM (fun x1 => (((ix v_polygon x1).bind fun p8 => ((((op2 .Add x1 (.int 1)).bind fun p4 => (bltV "len" [v_polygon]).bind fun p5 => op2 .Mod p4.1 p5.1).bind fun p6 => ix v_polygon p6.1).bind fun p7 => some [p7.1]).map fun q9 => p8.1 :: q9).bind fun q10 => sh (.tup q10)).bind fun p11 => some (some p11.1)) xs3).bind fun ys2 => some (.lst ys2, true)).bind fun p13 => some (p13.1, p13.2)
def mm_common_polygons (C : Str → List PV → Out) (v_polygon v_other : PV) : Out :=
  jn (fun (s2 : PV) => jn (fun (s4 : PV) => some (s4, false)) fun j3 => ((cl2 (C "sides_of" [v_other])).bind fun p18 => seqOf p18.1).bind fun xs17 => forC (fun x12 (s5 : PV) k10 k11 => (unT 2 x12).bind fun vs13 => (truth s5).bind fun t15 => if t15 then (cl1 (C "left_of" [s5, (vs13.getD 0 .non), (vs13.getD 1 .non)])).bind fun p14 => k10 p14.1 else k10 s5) (fun (s16 : PV) => j3 s16) xs17 s2) fun j1 => j1 v_polygon
def mm_cut_out (C : Str → List PV → Out) (v_polygon v_other : PV) : Out :=
  jn (fun (s2 : List PV × PV) => jn (fun (s7 : List PV × PV) => some (.lst s7.1, true)) fun j6 => ((cl2 (C "sides_of" [v_other])).bind fun p37 => seqOf p37.1).bind fun xs36 => forC (fun x23 (s8 : List PV × PV) k21 k22 => (unT 2 x23).bind fun vs24 => jn (fun (s26 : PV) => jn (fun (s29 : List PV) => (cl1 (C "left_of" [s8.2, (vs24.getD 0 .non), (vs24.getD 1 .non)])).bind fun p32 => k21 (s29, p32.1)) fun j28 => (truth s26).bind fun t31 => if t31 then (pushO s8.1 s26).bind fun ys30 => j28 ys30 else j28 s8.1) fun j25 => (cl1 (C "left_of" [s8.2, (vs24.getD 1 .non), (vs24.getD 0 .non)])).bind fun p27 => j25 p27.1) (fun (s35 : List PV × PV) => j6 (s35.1, s35.2)) xs36 (s2.1, s2.2)) fun j1 => (((cl1 (C "common_polygons" [v_polygon, v_other])).bind fun p5 => truth p5.1).map fun b4 => !b4).bind fun t3 => if t3 then some (.lst [v_polygon], true) else j1 ([], v_polygon)
def mm_without (C : Str → List PV → Out) (v_polygon v_others : PV) : Out :=
  jn (fun (s2 : List PV) => jn (fun (s4 : PV) => jn (fun (s78 : PV) => jn (fun (s80 : PV) => some (s80, false)) fun j79 => (seqOf s4).bind fun xs95 => forC (fun x89 (s81 : PV) k87 k88 => ((((cl1 (C "size_of" [x89])).bind fun p90 => some [p90.1]).map fun q91 => s81 :: q91).bind fun q92 => cl1 (C "plus" (q92 ++ []))).bind fun p93 => k87 p93.1) (fun (s94 : PV) => j79 s94) xs95 s78) fun j77 => j77 (.tup [(.int 0), (.int 1)])) fun j3 => (seqOf v_others).bind fun xs76 => forC (fun x53 (s28 : PV) k51 k52 => jn (fun (s55 : List PV) => jn (fun (s57 : PV) => k51 s57) fun j56 => (seqOf s28).bind fun xs72 => forC (fun x68 (s62 : PV) k66 k67 => ((cl2 (C "cut_out" [x68, x53])).bind fun p69 => op2 .Add s62 p69.1).bind fun p70 => k66 p70.1) (fun (s71 : PV) => j56 s71) xs72 (.lst s55)) fun j54 => j54 []) (fun (s75 : PV) => j3 s75) xs76 (.lst s2)) fun j1 => j1 [v_polygon]
def mm__law_over (C : Str → List PV → Out) (v_a v_b : PV) : Out :=
  ((((ix v_a (.int 0)).bind fun p1 => (ix v_b (.int 1)).bind fun p2 => op2 .Mult p1.1 p2.1).bind fun p6 => (((ix v_a (.int 1)).bind fun p3 => (ix v_b (.int 0)).bind fun p4 => op2 .Mult p3.1 p4.1).bind fun p5 => some [p5.1]).map fun q7 => p6.1 :: q7).bind fun q8 => cl1 (C "_law_fraction" (q8 ++ []))).bind fun p9 => some (p9.1, p9.2)
def mm__law_less (C : Str → List PV → Out) (v_a v_b : PV) : Out :=
  (((ix v_a (.int 0)).bind fun p1 => (ix v_b (.int 1)).bind fun p2 => op2 .Mult p1.1 p2.1).bind fun p3 => ((ix v_b (.int 0)).bind fun p4 => (ix v_a (.int 1)).bind fun p5 => op2 .Mult p4.1 p5.1).bind fun p6 => cmpV .Lt p3.1 p6.1).bind fun p7 => some (p7.1, p7.2)
def mm__law_middle (C : Str → List PV → Out) (v_a v_b : PV) : Out :=
  (((cl1 (C "_law_plus" [v_a, v_b])).bind fun p1 => some [p1.1, (.tup [(.int 1), (.int 2)])]).bind fun q2 => cl1 (C "_law_times" (q2 ++ []))).bind fun p3 => some (p3.1, p3.2)
def mm__law_turn (C : Str → List PV → Out) (v_a v_b v_c : PV) : Out :=
  (((((ix v_b (.int 0)).bind fun p2 => ((ix v_a (.int 0)).bind fun p1 => some [p1.1]).map fun q3 => p2.1 :: q3).bind fun q4 => cl1 (C "_law_minus" (q4 ++ []))).bind fun p10 => ((((ix v_c (.int 1)).bind fun p6 => ((ix v_a (.int 1)).bind fun p5 => some [p5.1]).map fun q7 => p6.1 :: q7).bind fun q8 => cl1 (C "_law_minus" (q8 ++ []))).bind fun p9 => some [p9.1]).map fun q11 => p10.1 :: q11).bind fun q12 => cl1 (C "_law_times" (q12 ++ []))).bind fun p13 => ((((((((ix v_b (.int 1)).bind fun p15 => ((ix v_a (.int 1)).bind fun p14 => some [p14.1]).map fun q16 => p15.1 :: q16).bind fun q17 => cl1 (C "_law_minus" (q17 ++ []))).bind fun p23 => ((((ix v_c (.int 0)).bind fun p19 => ((ix v_a (.int 0)).bind fun p18 => some [p18.1]).map fun q20 => p19.1 :: q20).bind fun q21 => cl1 (C "_law_minus" (q21 ++ []))).bind fun p22 => some [p22.1]).map fun q24 => p23.1 :: q24).bind fun q25 => cl1 (C "_law_times" (q25 ++ []))).bind fun p26 => some [p26.1]).map fun q27 => p13.1 :: q27).bind fun q28 => cl1 (C "_law_minus" (q28 ++ []))).bind fun p29 => some (p29.1, p29.2)
def mm__law_is_side (C : Str → List PV → Out) (v_points v_a v_b : PV) : Out :=
  jn (fun (s2 : Unit) => sh (.bl true)) fun j1 => (seqOf v_points).bind fun xs135 => forC (fun x70 (s3 : Unit) k68 k69 => jn (fun (s72 : PV) => ((ix s72 (.int 0)).bind fun p132 => cmp .Eq p132.1 (.int 0)).bind fun t131 => if t131 then (rng1 (.int 2)).bind fun xs130 => forC (fun x104 (s76 : Unit) k102 k103 => (((((ix x70 x104).bind fun p119 => ((ix v_a x104).bind fun p118 => some [p118.1]).map fun q120 => p119.1 :: q120).bind fun q121 => cl1 (C "_law_less" (q121 ++ []))).bind fun p122 => truth p122.1).bind fun b123 => if b123 then (((ix x70 x104).bind fun p125 => ((ix v_b x104).bind fun p124 => some [p124.1]).map fun q126 => p125.1 :: q126).bind fun q127 => cl1 (C "_law_less" (q127 ++ []))).bind fun p128 => truth p128.1 else some false).bind fun t105 => if t105 then sh (.bl false) else (((((ix v_a x104).bind fun p108 => ((ix x70 x104).bind fun p107 => some [p107.1]).map fun q109 => p108.1 :: q109).bind fun q110 => cl1 (C "_law_less" (q110 ++ []))).bind fun p111 => truth p111.1).bind fun b112 => if b112 then (((ix v_b x104).bind fun p114 => ((ix x70 x104).bind fun p113 => some [p113.1]).map fun q115 => p114.1 :: q115).bind fun q116 => cl1 (C "_law_less" (q116 ++ []))).bind fun p117 => truth p117.1 else some false).bind fun t106 => if t106 then sh (.bl false) else k102 ()) (fun (s129 : Unit) => k68 ()) xs130 () else k68 ()) fun j71 => (cl1 (C "_law_turn" [v_a, v_b, x70])).bind fun p73 => ((ix p73.1 (.int 0)).bind fun p75 => cmp .Lt p75.1 (.int 0)).bind fun t74 => if t74 then sh (.bl false) else j71 p73.1) (fun (s134 : Unit) => j1 ()) xs135 ()
def mm__law_least (C : Str → List PV → Out) (v_points : PV) : Out :=
  jn (fun (s2 : PV) => jn (fun (s5 : PV) => some (s5, false)) fun j4 => (seqOf v_points).bind fun xs42 => forC (fun x25 (s6 : PV) k23 k24 => (((((ix x25 (.int 0)).bind fun p28 => ((ix s6 (.int 0)).bind fun p27 => some [p27.1]).map fun q29 => p28.1 :: q29).bind fun q30 => cl1 (C "_law_less" (q30 ++ []))).bind fun p31 => truth p31.1).bind fun b32 => if b32 then some true else ((ix x25 (.int 0)).bind fun p33 => (ix s6 (.int 0)).bind fun p34 => cmp .Eq p33.1 p34.1).bind fun b35 => if b35 then (((ix x25 (.int 1)).bind fun p37 => ((ix s6 (.int 1)).bind fun p36 => some [p36.1]).map fun q38 => p37.1 :: q38).bind fun q39 => cl1 (C "_law_less" (q39 ++ []))).bind fun p40 => truth p40.1 else some false).bind fun t26 => if t26 then k23 x25 else k23 s6) (fun (s41 : PV) => j4 s41) xs42 s2) fun j1 => (ix v_points (.int 0)).bind fun p3 => j1 p3.1
def mm__law_other (C : Str → List PV → Out) (v_points : PV) : Out :=
  jn (fun (s2 : Unit) => (ix v_points (.int 0)).bind fun p14 => some (p14.1, p14.2)) fun j1 => (seqOf v_points).bind fun xs13 => forC (fun x9 (s3 : Unit) k7 k8 => ((ix v_points (.int 0)).bind fun p11 => cmp .NotEq x9 p11.1).bind fun t10 => if t10 then some (x9, false) else k7 ()) (fun (s12 : Unit) => j1 ()) xs13 ()
def mm__law_hull (C : Str → List PV → Out) (v_points : PV) : Out :=
  jn (fun (s2 : List PV) => jn (fun (s16 : List PV) => jn (fun (s55 : List PV) => jn (fun (s60 : List PV) => some (.lst s60, true)) fun j59 => ((bltV "len" [v_points]).bind fun p82 => rng1 p82.1).bind fun xs81 => forC (fun x72 (s61 : List PV) k70 k71 => (((ix (.lst s61) (.int (-1))).bind fun p77 => ix (.dct s16) p77.1).bind fun p78 => (ix (.lst s61) (.int 0)).bind fun p79 => cmp .Eq p78.1 p79.1).bind fun t73 => if t73 then k71 s61 else ((ix (.lst s61) (.int (-1))).bind fun p74 => ix (.dct s16) p74.1).bind fun p75 => if PV.flat p75.1 then (pushO s61 p75.1).bind fun ys76 => k70 ys76 else none) (fun (s80 : List PV) => j59 s80) xs81 s55) fun j54 => (ownO (((cl1 (C "_law_least" [v_points])).bind fun p56 => some [p56.1]).bind fun q57 => some (.lst q57, true))).bind fun ys58 => j54 ys58) fun j15 => (seqOf v_points).bind fun xs53 => forC (fun x36 (s17 : List PV) k34 k35 => (seqOf v_points).bind fun xs51 => forC (fun x45 (s37 : List PV) k43 k44 => ((cmp .NotEq x36 x45).bind fun b48 => if b48 then (cl1 (C "_law_is_side" [v_points, x36, x45])).bind fun p49 => truth p49.1 else some false).bind fun t47 => if t47 then (dSet s37 x36 x45).bind fun ys46 => k43 ys46 else k43 s37) (fun (s50 : List PV) => k34 s50) xs51 s17) (fun (s52 : List PV) => j15 s52) xs53 s2) fun j1 => (((seqOf v_points).bind fun xs6 => (compM (fun x4 => (((((ix v_points (.int 0)).bind fun p9 => ((cl1 (C "_law_other" [v_points])).bind fun p8 => some [p8.1, x4]).map fun q10 => p9.1 :: q10).bind fun q11 => cl1 (C "_law_turn" (q11 ++ []))).bind fun p12 => ix p12.1 (.int 0)).bind fun p13 => cmp .NotEq p13.1 (.int 0)).bind fun b7 => if b7 then some (some x4) else some none) xs6).bind fun ys5 => some (.lst ys5, true)).bind fun p14 => cmp .Eq p14.1 (.lst [])).bind fun t3 => if t3 then some (.lst [], true) else j1 []
def mm__law_twice (C : Str → List PV → Out) (v_polygon : PV) : Out :=
  jn (fun (s2 : PV) => jn (fun (s4 : PV) => some (s4, false)) fun j3 => (((bltV "len" [v_polygon]).bind fun p34 => op2 .Sub p34.1 (.int 1)).bind fun p35 => rng2 (.int 1) p35.1).bind fun xs33 => forC (fun x20 (s5 : PV) k18 k19 => ((((((ix v_polygon (.int 0)).bind fun p25 => ((ix v_polygon x20).bind fun p23 => (((op2 .Add x20 (.int 1)).bind fun p21 => ix v_polygon p21.1).bind fun p22 => some [p22.1]).map fun q24 => p23.1 :: q24).map fun q26 => p25.1 :: q26).bind fun q27 => cl1 (C "_law_turn" (q27 ++ []))).bind fun p28 => some [p28.1]).map fun q29 => s5 :: q29).bind fun q30 => cl1 (C "_law_plus" (q30 ++ []))).bind fun p31 => k18 p31.1) (fun (s32 : PV) => j3 s32) xs33 s2) fun j1 => j1 (.tup [(.int 0), (.int 1)])
def mm__law_clip (C : Str → List PV → Out) (v_polygon v_start v_end : PV) : Out :=
  jn (fun (s2 : List PV) => jn (fun (s4 : List PV) => some (.lst s4, true)) fun j3 => ((bltV "len" [v_polygon]).bind fun p98 => rng1 p98.1).bind fun xs97 => forC (fun x52 (s5 : List PV) k50 k51 => jn (fun (s54 : PV × PV × PV × PV) => jn (fun (s63 : List PV) => (((ix s54.2.2.1 (.int 0)).bind fun p91 => (ix s54.2.2.2 (.int 0)).bind fun p92 => op2 .Mult p91.1 p92.1).bind fun p93 => cmp .Lt p93.1 (.int 0)).bind fun t90 => if t90 then ((((cl1 (C "_law_minus" [s54.2.2.1, s54.2.2.2])).bind fun p67 => some [p67.1]).map fun q68 => s54.2.2.1 :: q68).bind fun q69 => cl1 (C "_law_over" (q69 ++ []))).bind fun p70 => ((((rng1 (.int 2)).bind fun xs73 => (compM (fun x71 => (((ix s54.1 x71).bind fun p82 => (((((((ix s54.2.1 x71).bind fun p75 => ((ix s54.1 x71).bind fun p74 => some [p74.1]).map fun q76 => p75.1 :: q76).bind fun q77 => cl1 (C "_law_minus" (q77 ++ []))).bind fun p78 => some [p78.1]).map fun q79 => p70.1 :: q79).bind fun q80 => cl1 (C "_law_times" (q80 ++ []))).bind fun p81 => some [p81.1]).map fun q83 => p82.1 :: q83).bind fun q84 => cl1 (C "_law_plus" (q84 ++ []))).bind fun p85 => some (some p85.1)) xs73).bind fun ys72 => some (.lst ys72, true)).bind fun p86 => some [p86.1]).bind fun q87 => bltV "tuple" q87).bind fun p88 => (pushO s63 p88.1).bind fun ys89 => k50 ys89 else k50 s63) fun j62 => ((ix s54.2.2.1 (.int 0)).bind fun p66 => cmp .GtE p66.1 (.int 0)).bind fun t65 => if t65 then (pushO s5 s54.1).bind fun ys64 => j62 ys64 else j62 s5) fun j53 => (ix v_polygon x52).bind fun p55 => (((op2 .Add x52 (.int 1)).bind fun p56 => (bltV "len" [v_polygon]).bind fun p57 => op2 .Mod p56.1 p57.1).bind fun p58 => ix v_polygon p58.1).bind fun p59 => (cl1 (C "_law_turn" [v_start, v_end, p55.1])).bind fun p60 => (cl1 (C "_law_turn" [v_start, v_end, p59.1])).bind fun p61 => j53 (p55.1, p59.1, p60.1, p61.1)) (fun (s96 : List PV) => j3 s96) xs97 s2) fun j1 => j1 []
def mm__law_shared (C : Str → List PV → Out) (v_polygons : PV) : Out :=
  jn (fun (s2 : PV) => jn (fun (s5 : PV) => (cl1 (C "_law_twice" [s5])).bind fun p94 => some (p94.1, p94.2)) fun j4 => ((sl v_polygons (some 1) none).bind fun p93 => seqOf p93.1).bind fun xs92 => forC (fun x50 (s6 : PV) k48 k49 => ((bltV "len" [x50]).bind fun p90 => rng1 p90.1).bind fun xs89 => forC (fun x77 (s63 : PV) k75 k76 => (cmp .NotEq s63 (.lst [])).bind fun t87 => if t87 then (ownO ((((ix x50 x77).bind fun p82 => ((((op2 .Add x77 (.int 1)).bind fun p78 => (bltV "len" [x50]).bind fun p79 => op2 .Mod p78.1 p79.1).bind fun p80 => ix x50 p80.1).bind fun p81 => some [p81.1]).map fun q83 => p82.1 :: q83).map fun q84 => s63 :: q84).bind fun q85 => cl2 (C "_law_clip" (q85 ++ [])))).bind fun ys86 => k75 (.lst ys86) else k75 s63) (fun (s88 : PV) => k48 s88) xs89 s6) (fun (s91 : PV) => j4 s91) xs92 s2) fun j1 => (ix v_polygons (.int 0)).bind fun p3 => j1 p3.1
def mm__law_points (C : Str → List PV → Out) (v_script : PV) : Out :=
  jn (fun (s2 : List PV) => jn (fun (s4 : List PV) => some (.lst s4, true)) fun j3 => (((((cl1 (C "_law_cell" [v_script, (.int 5)])).bind fun p130 => some [p130.1]).bind fun q131 => bltV "int" q131).bind fun p132 => op2 .Mod p132.1 (.int 11)).bind fun p133 => rng1 p133.1).bind fun xs129 => forC (fun x68 (s5 : List PV) k66 k67 => jn (fun (s70 : PV × PV × PV) => jn (fun (s94 : PV) => jn (fun (s105 : PV) => (pushO s5 s105).bind fun ys124 => k66 ys124) fun j104 => ((((ix s70.1 (.int 3)).bind fun p120 => op2 .Mod p120.1 (.int 7)).bind fun p121 => cmp .Eq p121.1 (.int 1)).bind fun b122 => if b122 then (bltV "len" [(.lst s5)]).bind fun p123 => cmp .Gt p123.1 (.int 1) else some false).bind fun t119 => if t119 then ((((rng1 (.int 2)).bind fun xs108 => (compM (fun x106 => ((((ix (.lst s5) (.int 0)).bind fun p109 => ix p109.1 x106).bind fun p112 => (((ix (.lst s5) (.int 1)).bind fun p110 => ix p110.1 x106).bind fun p111 => some [p111.1]).map fun q113 => p112.1 :: q113).bind fun q114 => cl1 (C "_law_middle" (q114 ++ []))).bind fun p115 => some (some p115.1)) xs108).bind fun ys107 => some (.lst ys107, true)).bind fun p116 => some [p116.1]).bind fun q117 => bltV "tuple" q117).bind fun p118 => if PV.flat p118.1 then j104 p118.1 else none else j104 s94) fun j93 => ((((ix s70.1 (.int 3)).bind fun p101 => op2 .Mod p101.1 (.int 7)).bind fun p102 => cmp .Eq p102.1 (.int 0)).bind fun b103 => if b103 then cmp .NotEq (.lst s5) (.lst []) else some false).bind fun t100 => if t100 then ((((ix s70.1 (.int 3)).bind fun p95 => op2 .FloorDiv p95.1 (.int 7)).bind fun p96 => (bltV "len" [(.lst s5)]).bind fun p97 => op2 .Mod p96.1 p97.1).bind fun p98 => ix (.lst s5) p98.1).bind fun p99 => if PV.flat p99.1 then j93 p99.1 else none else j93 s70.2.2) fun j69 => (ownO ((((((op2 .Add (.int 6) x68).bind fun p71 => some [p71.1]).map fun q72 => v_script :: q72).bind fun q73 => cl1 (C "_law_cell" (q73 ++ []))).bind fun p74 => some [p74.1, (.int 4), (.int 1000)]).bind fun q75 => cl2 (C "_law_row" (q75 ++ [])))).bind fun ys76 => (((ix (.lst ys76) (.int 2)).bind fun p77 => op2 .Mod p77.1 (.int 3)).bind fun p78 => op2 .Add (.int 1) p78.1).bind fun p79 => (((((((ix (.lst ys76) (.int 0)).bind fun p80 => op2 .Mod p80.1 (.int 11)).bind fun p81 => op2 .Sub p81.1 (.int 5)).bind fun p82 => some [p82.1, p79.1]).bind fun q83 => cl1 (C "_law_fraction" (q83 ++ []))).bind fun p89 => ((((((ix (.lst ys76) (.int 1)).bind fun p84 => op2 .Mod p84.1 (.int 11)).bind fun p85 => op2 .Sub p85.1 (.int 5)).bind fun p86 => some [p86.1, p79.1]).bind fun q87 => cl1 (C "_law_fraction" (q87 ++ []))).bind fun p88 => some [p88.1]).map fun q90 => p89.1 :: q90).bind fun q91 => sh (.tup q91)).bind fun p92 => j69 ((.lst ys76), p79.1, p92.1)) (fun (s128 : List PV) => j3 s128) xs129 s2) fun j1 => j1 []
def mm__law_shoelace (C : Str → List PV → Out) (v_row : PV) : Out :=
  jn (fun (s2 : PV) => jn (fun (s4 : PV) => some (s4, false)) fun j3 => ((bltV "len" [v_row]).bind fun p54 => rng1 p54.1).bind fun xs53 => forC (fun x30 (s5 : PV) k28 k29 => (ix v_row x30).bind fun p31 => (((op2 .Add x30 (.int 1)).bind fun p32 => (bltV "len" [v_row]).bind fun p33 => op2 .Mod p32.1 p33.1).bind fun p34 => ix v_row p34.1).bind fun p35 => ((((((((ix p31.1 (.int 0)).bind fun p37 => ((ix p35.1 (.int 1)).bind fun p36 => some [p36.1]).map fun q38 => p37.1 :: q38).bind fun q39 => cl1 (C "_law_times" (q39 ++ []))).bind fun p45 => ((((ix p35.1 (.int 0)).bind fun p41 => ((ix p31.1 (.int 1)).bind fun p40 => some [p40.1]).map fun q42 => p41.1 :: q42).bind fun q43 => cl1 (C "_law_times" (q43 ++ []))).bind fun p44 => some [p44.1]).map fun q46 => p45.1 :: q46).bind fun q47 => cl1 (C "_law_minus" (q47 ++ []))).bind fun p48 => some [p48.1]).map fun q49 => s5 :: q49).bind fun q50 => cl1 (C "_law_plus" (q50 ++ []))).bind fun p51 => k28 p51.1) (fun (s52 : PV) => j3 s52) xs53 s2) fun j1 => j1 (.tup [(.int 0), (.int 1)])
def mm__law_right_hull (C : Str → List PV → Out) (v_points : PV) : Out :=
  jn (fun (s2 : List PV) => jn (fun (s4 : List PV) => jn (fun (s8 : PV × PV) => (((((bltV "list" [(.lst s4)]).bind fun p14 => some [p14.1]).bind fun q15 => cl1 (C "size_of" (q15 ++ []))).bind fun p16 => (cl1 (C "_law_shoelace" [(.lst s4)])).bind fun p17 => cmpV .Eq p16.1 p17.1).bind fun p19 => (blOf p19.1).bind fun b18 => if b18 then ((((sl (.lst s4) (some 1) none).bind fun p20 => (sl (.lst s4) none (some 1)).bind fun p21 => op2 .Add p20.1 p21.1).bind fun p22 => some [p22.1]).bind fun q23 => cl1 (C "size_of" (q23 ++ []))).bind fun p24 => (cl1 (C "_law_shoelace" [(.lst s4)])).bind fun p25 => cmpV .Eq p24.1 p25.1 else sh (.bl false)).bind fun p26 => some (p26.1, p26.2)) fun j7 => (ownO (bltV "list" [v_points])).bind fun ys9 => (cl1 (C "hull" [(.lst ys9)])).bind fun p10 => ((cmp .NotEq (.lst ys9) v_points).bind fun b13 => if b13 then some true else cmp .NotEq p10.1 (.lst s4)).bind fun t11 => if t11 then sh (.bl false) else (cmp .Eq (.lst s4) (.lst [])).bind fun t12 => if t12 then sh (.bl true) else j7 ((.lst ys9), p10.1)) fun j3 => (cmp .NotEq v_points (.lst [])).bind fun t6 => if t6 then (ownO (cl2 (C "_law_hull" [v_points]))).bind fun ys5 => j3 ys5 else j3 s2) fun j1 => j1 []
def mm__law_drawn (C : Str → List PV → Out) (v_cell : PV) : Out :=
  jn (fun (s2 : List PV × List PV) => jn (fun (s5 : PV × List PV) => jn (fun (s61 : PV × List PV) => jn (fun (s64 : List PV) => some (.lst s64, true)) fun j63 => (cmp .Eq (.lst s61.2) (.lst [])).bind fun t65 => if t65 then j63 [(.tup [(.tup [(.int 0), (.int 1)]), (.tup [(.int 0), (.int 1)])]), (.tup [(.tup [(.int 3), (.int 1)]), (.tup [(.int 0), (.int 1)])]), (.tup [(.tup [(.int 1), (.int 1)]), (.tup [(.int 2), (.int 1)])])] else j63 s61.2) fun j60 => (ownO (cl2 (C "_law_hull" [(.lst s5.2)]))).bind fun ys62 => j60 ((.lst s5.2), ys62)) fun j4 => ((((ix (.lst s2.1) (.int 12)).bind fun p57 => op2 .Mod p57.1 (.int 4)).bind fun p58 => op2 .Add (.int 3) p58.1).bind fun p59 => rng1 p59.1).bind fun xs56 => forC (fun x32 (s6 : List PV) k30 k31 => (((((op2 .Mult (.int 2) x32).bind fun p33 => ix (.lst s2.1) p33.1).bind fun p34 => op2 .FloorDiv p34.1 (.int 13)).bind fun p35 => op2 .Mod p35.1 (.int 3)).bind fun p36 => op2 .Add (.int 1) p36.1).bind fun p37 => ((((((((op2 .Mult (.int 2) x32).bind fun p38 => ix (.lst s2.1) p38.1).bind fun p39 => op2 .Mod p39.1 (.int 13)).bind fun p40 => op2 .Sub p40.1 (.int 6)).bind fun p41 => some [p41.1, p37.1]).bind fun q42 => cl1 (C "_law_fraction" (q42 ++ []))).bind fun p50 => ((((((((op2 .Mult (.int 2) x32).bind fun p43 => op2 .Add p43.1 (.int 1)).bind fun p44 => ix (.lst s2.1) p44.1).bind fun p45 => op2 .Mod p45.1 (.int 13)).bind fun p46 => op2 .Sub p46.1 (.int 6)).bind fun p47 => some [p47.1, p37.1]).bind fun q48 => cl1 (C "_law_fraction" (q48 ++ []))).bind fun p49 => some [p49.1]).map fun q51 => p50.1 :: q51).bind fun q52 => sh (.tup q52)).bind fun p53 => (pushO s6 p53.1).bind fun ys54 => k30 ys54) (fun (s55 : List PV) => j4 ((.lst s2.1), s55)) xs56 s2.2) fun j1 => (ownO (cl2 (C "_law_row" [v_cell, (.int 13), (.int 1000)]))).bind fun ys3 => j1 (ys3, [])
def mm__law_is_left (C : Str → List PV → Out) (v_row v_start v_end : PV) : Out :=
  jn (fun (s2 : Unit) => ((cmpV .Eq v_row (.lst [])).bind fun p17 => (blOf p17.1).bind fun b16 => if b16 then sh (.bl true) else (bltV "len" [v_row]).bind fun p18 => cmpV .Gt p18.1 (.int 2)).bind fun p19 => some (p19.1, p19.2)) fun j1 => (seqOf v_row).bind fun xs15 => forC (fun x10 (s3 : Unit) k8 k9 => (((cl1 (C "_law_turn" [v_start, v_end, x10])).bind fun p12 => ix p12.1 (.int 0)).bind fun p13 => cmp .Lt p13.1 (.int 0)).bind fun t11 => if t11 then sh (.bl false) else k8 ()) (fun (s14 : Unit) => j1 ()) xs15 ()
def mm_law (C : Str → List PV → Out) (v_script : PV) : Out :=
  jn (fun (s2 : List PV × List PV × List PV) => jn (fun (s29 : PV × PV) => jn (fun (s44 : PV × PV × PV × PV) => jn (fun (s73 : PV) => jn (fun (s94 : PV × PV) => jn (fun (s111 : PV) => (ownO ((seqOf s94.1).bind fun xs127 => (compM (fun x125 => (bltV "list" [x125]).bind fun p128 => some (some p128.1)) xs127).bind fun ys126 => some (.lst ys126, true))).bind fun ys129 => (((((bltV "list" [s44.1]).bind fun p140 => some [p140.1, (.lst ys129)]).bind fun q141 => cl1 (C "without" (q141 ++ []))).bind fun p142 => cmp .NotEq p142.1 s111).bind fun b143 => if b143 then some true else cmp .NotEq (.lst ys129) s94.1).bind fun t130 => if t130 then sh (.bl false) else ((((bltV "list" [s44.1]).bind fun p135 => (((((bltV "list" [s44.1]).bind fun p131 => some [p131.1]).bind fun q132 => some (.lst q132, true)).bind fun p133 => op2 .Add (.lst ys129) p133.1).bind fun p134 => some [p134.1]).map fun q136 => p135.1 :: q136).bind fun q137 => cl1 (C "without" (q137 ++ []))).bind fun p138 => cmpV .Eq p138.1 (.tup [(.int 0), (.int 1)])).bind fun p139 => some (p139.1, p139.2)) fun j110 => ((bltV "len" [s94.1]).bind fun p124 => cmp .Eq p124.1 (.int 2)).bind fun t123 => if t123 then (((((((((ix s94.1 (.int 0)).bind fun p113 => ((ix s94.1 (.int 1)).bind fun p112 => some [p112.1]).map fun q114 => p113.1 :: q114).map fun q115 => s44.1 :: q115).bind fun q116 => some (.lst q116, true)).bind fun p117 => some [p117.1]).bind fun q118 => cl1 (C "_law_shared" (q118 ++ []))).bind fun p119 => some [p119.1]).map fun q120 => s94.2 :: q120).bind fun q121 => cl1 (C "_law_plus" (q121 ++ []))).bind fun p122 => j110 p122.1 else j110 s94.2) fun j93 => (seqOf (.lst s2.2.1)).bind fun xs109 => forC (fun x103 (s95 : PV) k101 k102 => ((((cl1 (C "_law_shared" [(.lst [s44.1, x103])])).bind fun p104 => some [p104.1]).map fun q105 => s95 :: q105).bind fun q106 => cl1 (C "_law_minus" (q106 ++ []))).bind fun p107 => k101 p107.1) (fun (s108 : PV) => j93 ((.lst s2.2.1), s108)) xs109 s73) fun j72 => ((((cl1 (C "_law_is_left" [s44.2.2.1, s29.2, s44.2.1])).bind fun p89 => truth p89.1).map fun b88 => !b88).bind fun b90 => if b90 then some true else ((cl1 (C "_law_is_left" [s44.2.2.2, s44.2.1, s29.2])).bind fun p92 => truth p92.1).map fun b91 => !b91).bind fun t74 => if t74 then sh (.bl false) else ((cl1 (C "size_of" [s44.2.2.1])).bind fun p84 => (((cl2 (C "_law_clip" [s44.1, s29.2, s44.2.1])).bind fun p85 => some [p85.1]).bind fun q86 => cl1 (C "_law_twice" (q86 ++ []))).bind fun p87 => cmp .NotEq p84.1 p87.1).bind fun t75 => if t75 then sh (.bl false) else ((((cl1 (C "size_of" [s44.2.2.1])).bind fun p79 => ((cl1 (C "size_of" [s44.2.2.2])).bind fun p78 => some [p78.1]).map fun q80 => p79.1 :: q80).bind fun q81 => cl1 (C "_law_plus" (q81 ++ []))).bind fun p82 => (cl1 (C "_law_twice" [s44.1])).bind fun p83 => cmp .NotEq p82.1 p83.1).bind fun t76 => if t76 then sh (.bl false) else (cl1 (C "_law_twice" [s44.1])).bind fun p77 => j72 p77.1) fun j43 => (((((ix s29.2 (.int 0)).bind fun p50 => ((((((ix s29.1 (.int 2)).bind fun p45 => op2 .Mod p45.1 (.int 5)).bind fun p46 => op2 .Add (.int 1) p46.1).bind fun p47 => some [p47.1, (.int 1)]).bind fun q48 => sh (.tup q48)).bind fun p49 => some [p49.1]).map fun q51 => p50.1 :: q51).bind fun q52 => cl1 (C "_law_plus" (q52 ++ []))).bind fun p62 => ((((ix s29.2 (.int 1)).bind fun p58 => ((((((ix s29.1 (.int 3)).bind fun p53 => op2 .Mod p53.1 (.int 9)).bind fun p54 => op2 .Sub p54.1 (.int 4)).bind fun p55 => some [p55.1, (.int 1)]).bind fun q56 => sh (.tup q56)).bind fun p57 => some [p57.1]).map fun q59 => p58.1 :: q59).bind fun q60 => cl1 (C "_law_plus" (q60 ++ []))).bind fun p61 => some [p61.1]).map fun q63 => p62.1 :: q63).bind fun q64 => sh (.tup q64)).bind fun p65 => (((bltV "list" [(.lst s2.1)]).bind fun p66 => some [p66.1, s29.2, p65.1]).bind fun q67 => cl1 (C "left_of" (q67 ++ []))).bind fun p68 => (((bltV "list" [(.lst s2.1)]).bind fun p69 => some [p69.1, p65.1, s29.2]).bind fun q70 => cl1 (C "left_of" (q70 ++ []))).bind fun p71 => j43 ((.lst s2.1), p65.1, p68.1, p71.1)) fun j28 => (((((((ix (.lst s2.2.2) (.int 0)).bind fun p30 => op2 .Mod p30.1 (.int 13)).bind fun p31 => op2 .Sub p31.1 (.int 6)).bind fun p32 => some [p32.1, (.int 2)]).bind fun q33 => cl1 (C "_law_fraction" (q33 ++ []))).bind fun p39 => ((((((ix (.lst s2.2.2) (.int 1)).bind fun p34 => op2 .Mod p34.1 (.int 13)).bind fun p35 => op2 .Sub p35.1 (.int 6)).bind fun p36 => some [p36.1, (.int 2)]).bind fun q37 => cl1 (C "_law_fraction" (q37 ++ []))).bind fun p38 => some [p38.1]).map fun q40 => p39.1 :: q40).bind fun q41 => sh (.tup q41)).bind fun p42 => j28 ((.lst s2.2.2), p42.1)) fun j1 => (((((cl2 (C "_law_points" [v_script])).bind fun p25 => some [p25.1]).bind fun q26 => cl1 (C "_law_right_hull" (q26 ++ []))).bind fun p27 => truth p27.1).map fun b24 => !b24).bind fun t3 => if t3 then sh (.bl false) else (ownO (((cl1 (C "_law_cell" [v_script, (.int 0)])).bind fun p4 => some [p4.1]).bind fun q5 => cl2 (C "_law_drawn" (q5 ++ [])))).bind fun ys6 => (ownO ((((((cl1 (C "_law_cell" [v_script, (.int 3)])).bind fun p16 => some [p16.1]).bind fun q17 => bltV "int" q17).bind fun p18 => op2 .Mod p18.1 (.int 3)).bind fun p19 => rng1 p19.1).bind fun xs9 => (compM (fun x7 => ((((((op2 .Add (.int 1) x7).bind fun p10 => some [p10.1]).map fun q11 => v_script :: q11).bind fun q12 => cl1 (C "_law_cell" (q12 ++ []))).bind fun p13 => some [p13.1]).bind fun q14 => cl2 (C "_law_drawn" (q14 ++ []))).bind fun p15 => some (some p15.1)) xs9).bind fun ys8 => some (.lst ys8, true))).bind fun ys20 => (ownO (((cl1 (C "_law_cell" [v_script, (.int 4)])).bind fun p21 => some [p21.1, (.int 4), (.int 1000)]).bind fun q22 => cl2 (C "_law_row" (q22 ++ [])))).bind fun ys23 => j1 (ys6, ys20, ys23)
end K66

namespace K66
open PySem L2 Pv
theorem b_common_numbers (C : Str → List PV → Out) (v_a v_b : PV) : runK prog (tbOf prog C) d_common_numbers [v_a, v_b] = mm_common_numbers C v_a v_b := by
  refine (runK_pos rfl).trans ?_
  unfold mm_common_numbers
  refine cut 2 (fun (s2 : PV × PV) => [.val s2.1, .val s2.2]) ?_ ?_
  · intro k14
    exact rfl
  · intro s2
    refine cut 1 (fun (s6 : PV × PV) => [.val s6.1, .val s6.2]) ?_ ?_
    · intro k13
      refine whP (fun (s7 : PV × PV) => [.val s7.1, .val s7.2]) (s2.1, s2.2) ?_ ?_ ?_ ?_
      · exact rfl
      · intro s
        exact rfl
      · intro s
        exact rfl
      · intro s7 k9 k10
        exact rfl
    · intro s6
      exact rfl
theorem b_fraction (C : Str → List PV → Out) (v_number v_divisor : PV) : runK prog (tbOf prog C) d_fraction [v_number, v_divisor] = mm_fraction C v_number v_divisor := by
  refine (runK_pos rfl).trans ?_
  unfold mm_fraction
  refine cut 2 (fun (s2 : PV) => [.val v_number, .val v_divisor, .val s2]) ?_ ?_
  · intro k15
    exact rfl
  · intro s2
    refine cut 1 (fun (s6 : PV) => [.val v_number, .val v_divisor, .val s6]) ?_ ?_
    · intro k14
      exact rfl
    · intro s6
      exact rfl
theorem b_plus (C : Str → List PV → Out) (v_a v_b : PV) : runK prog (tbOf prog C) d_plus [v_a, v_b] = mm_plus C v_a v_b := by
  refine (runK_pos rfl).trans ?_
  unfold mm_plus
  exact rfl
theorem b_minus (C : Str → List PV → Out) (v_a v_b : PV) : runK prog (tbOf prog C) d_minus [v_a, v_b] = mm_minus C v_a v_b := by
  refine (runK_pos rfl).trans ?_
  unfold mm_minus
  exact rfl
theorem b_times (C : Str → List PV → Out) (v_a v_b : PV) : runK prog (tbOf prog C) d_times [v_a, v_b] = mm_times C v_a v_b := by
  refine (runK_pos rfl).trans ?_
  unfold mm_times
  exact rfl
theorem b_over (C : Str → List PV → Out) (v_a v_b : PV) : runK prog (tbOf prog C) d_over [v_a, v_b] = mm_over C v_a v_b := by
  refine (runK_pos rfl).trans ?_
  unfold mm_over
  exact rfl
theorem b_less (C : Str → List PV → Out) (v_a v_b : PV) : runK prog (tbOf prog C) d_less [v_a, v_b] = mm_less C v_a v_b := by
  refine (runK_pos rfl).trans ?_
  unfold mm_less
  exact rfl
theorem b_sign (C : Str → List PV → Out) (v_a : PV) : runK prog (tbOf prog C) d_sign [v_a] = mm_sign C v_a := by
  refine (runK_pos rfl).trans ?_
  unfold mm_sign
  exact rfl
theorem b_turn (C : Str → List PV → Out) (v_a v_b v_c : PV) : runK prog (tbOf prog C) d_turn [v_a, v_b, v_c] = mm_turn C v_a v_b v_c := by
  refine (runK_pos rfl).trans ?_
  unfold mm_turn
  exact rfl
theorem b_smaller (C : Str → List PV → Out) (v_a v_b : PV) : runK prog (tbOf prog C) d_smaller [v_a, v_b] = mm_smaller C v_a v_b := by
  refine (runK_pos rfl).trans ?_
  unfold mm_smaller
  exact rfl
theorem b_put_in (C : Str → List PV → Out) (v_point v_row : PV) : runK prog (tbOf prog C) d_put_in [v_point, v_row] = mm_put_in C v_point v_row := by
  refine (runK_pos rfl).trans ?_
  unfold mm_put_in
  refine cut 1 (fun (s2 : PV) => [.val v_point, .val v_row, .val s2]) ?_ ?_
  · intro k27
    exact rfl
  · intro s2
    refine cut 1 (fun (s4 : PV) => [.val v_point, .val v_row, .val s4]) ?_ ?_
    · intro k26
      refine whP (fun (s5 : PV) => [.val v_point, .val v_row, .val s5]) s2 ?_ ?_ ?_ ?_
      · exact rfl
      · intro s
        exact rfl
      · intro s
        exact rfl
      · intro s5 k7 k8
        exact rfl
    · intro s4
      exact rfl
theorem b_chain (C : Str → List PV → Out) (v_row : PV) : runK prog (tbOf prog C) d_chain [v_row] = mm_chain C v_row := by
  refine (runK_pos rfl).trans ?_
  unfold mm_chain
  refine cut 1 (fun (s2 : List PV) => [.val v_row, .own s2, .emp]) ?_ ?_
  · intro k51
    exact rfl
  · intro s2
    refine cut 1 (fun (s4 : List PV) => [.val v_row, .own s4, .emp]) ?_ ?_
    · intro k50
      refine forP (fun (s5 : List PV) => [.val v_row, .own s5, .emp]) s2 [.val v_row, .own s2, .emp] (fun (x28 : PV) (s5 : List PV) => [.val v_row, .own s5, .val x28]) ?_ ?_ ?_ ?_ ?_
      · intro K
        exact rfl
      · exact rfl
      · intro x s K
        exact rfl
      · intro s
        exact rfl
      · intro x28 s5 k26 k27
        refine cut 1 (fun (s30 : List PV) => [.val v_row, .own s30, .val x28]) ?_ ?_
        · intro k47
          refine whP (fun (s31 : List PV) => [.val v_row, .own s31, .val x28]) s5 ?_ ?_ ?_ ?_
          · exact rfl
          · intro s
            exact rfl
          · intro s
            exact rfl
          · intro s31 k33 k34
            exact rfl
        · intro s30
          exact rfl
    · intro s4
      exact rfl
theorem b_hull (C : Str → List PV → Out) (v_points : PV) : runK prog (tbOf prog C) d_hull [v_points] = mm_hull C v_points := by
  refine (runK_pos rfl).trans ?_
  unfold mm_hull
  refine cut 1 (fun (s2 : List PV) => [.val v_points, .own s2, .emp, .emp]) ?_ ?_
  · intro k28
    exact rfl
  · intro s2
    refine cut 1 (fun (s4 : PV) => [.val v_points, .val s4, .emp, .emp]) ?_ ?_
    · intro k27
      refine forP (fun (s8 : PV) => [.val v_points, .val s8, .emp, .emp]) (.lst s2) [.val v_points, .own s2, .emp, .emp] (fun (x13 : PV) (s8 : PV) => [.val v_points, .val s8, .val x13, .emp]) ?_ ?_ ?_ ?_ ?_
      · intro K
        exact rfl
      · exact rfl
      · intro x s K
        exact rfl
      · intro s
        exact rfl
      · intro x13 s8 k11 k12
        exact rfl
    · intro s4
      exact rfl
theorem b_size_of (C : Str → List PV → Out) (v_polygon : PV) : runK prog (tbOf prog C) d_size_of [v_polygon] = mm_size_of C v_polygon := by
  refine (runK_pos rfl).trans ?_
  unfold mm_size_of
  refine cut 1 (fun (s2 : PV) => [.val v_polygon, .val s2, .emp]) ?_ ?_
  · intro k37
    exact rfl
  · intro s2
    refine cut 1 (fun (s4 : PV) => [.val v_polygon, .val s4, .emp]) ?_ ?_
    · intro k36
      refine forP (fun (s5 : PV) => [.val v_polygon, .val s5, .emp]) s2 [.val v_polygon, .val s2, .emp] (fun (x20 : PV) (s5 : PV) => [.val v_polygon, .val s5, .val x20]) ?_ ?_ ?_ ?_ ?_
      · intro K
        exact rfl
      · exact rfl
      · intro x s K
        exact rfl
      · intro s
        exact rfl
      · intro x20 s5 k18 k19
        exact rfl
    · intro s4
      exact rfl
theorem b_crossing (C : Str → List PV → Out) (v_a v_b v_at_a v_at_b : PV) : runK prog (tbOf prog C) d_crossing [v_a, v_b, v_at_a, v_at_b] = mm_crossing C v_a v_b v_at_a v_at_b := by
  refine (runK_pos rfl).trans ?_
  unfold mm_crossing
  exact rfl
theorem b_left_of (C : Str → List PV → Out) (v_polygon v_start v_end : PV) : runK prog (tbOf prog C) d_left_of [v_polygon, v_start, v_end] = mm_left_of C v_polygon v_start v_end := by
  refine (runK_pos rfl).trans ?_
  unfold mm_left_of
  refine cut 2 (fun (s2 : List PV × List PV) => [.val v_polygon, .val v_start, .val v_end, .own s2.1, .own s2.2, .emp, .emp, .emp]) ?_ ?_
  · intro k120
    exact rfl
  · intro s2
    refine cut 1 (fun (s9 : PV × List PV) => [.val v_polygon, .val v_start, .val v_end, .val s9.1, .own s9.2, .emp, .emp, .emp]) ?_ ?_
    · intro k119
      refine forP (fun (s44 : List PV) => [.val v_polygon, .val v_start, .val v_end, .val (.lst s2.1), .own s44, .emp, .emp, .emp]) s2.2 [.val v_polygon, .val v_start, .val v_end, .own s2.1, .own s2.2, .emp, .emp, .emp] (fun (x80 : PV) (s44 : List PV) => [.val v_polygon, .val v_start, .val v_end, .val (.lst s2.1), .own s44, .val x80, .emp, .emp]) ?_ ?_ ?_ ?_ ?_
      · intro K
        exact rfl
      · exact rfl
      · intro x s K
        exact rfl
      · intro s
        exact rfl
      · intro x80 s44 k78 k79
        refine cut 1 (fun (s82 : PV) => [.val v_polygon, .val v_start, .val v_end, .val (.lst s2.1), .own s44, .val x80, .val s82, .emp]) ?_ ?_
        · intro k112
          exact rfl
        · intro s82
          refine cut 1 (fun (s87 : List PV) => [.val v_polygon, .val v_start, .val v_end, .val (.lst s2.1), .own s87, .val x80, .val s82, .emp]) ?_ ?_
          · intro k111
            exact rfl
          · intro s87
            exact rfl
    · intro s9
      exact rfl
theorem b_sides_of (C : Str → List PV → Out) (v_polygon : PV) : runK prog (tbOf prog C) d_sides_of [v_polygon] = mm_sides_of C v_polygon := by
  refine (runK_pos rfl).trans ?_
  unfold mm_sides_of
  exact rfl
theorem b_common_polygons (C : Str → List PV → Out) (v_polygon v_other : PV) : runK prog (tbOf prog C) d_common_polygons [v_polygon, v_other] = mm_common_polygons C v_polygon v_other := by
  refine (runK_pos rfl).trans ?_
  unfold mm_common_polygons
  refine cut 1 (fun (s2 : PV) => [.val v_polygon, .val v_other, .val s2, .emp, .emp]) ?_ ?_
  · intro k20
    exact rfl
  · intro s2
    refine cut 1 (fun (s4 : PV) => [.val v_polygon, .val v_other, .val s4, .emp, .emp]) ?_ ?_
    · intro k19
      refine forPt 2 (fun (s5 : PV) => [.val v_polygon, .val v_other, .val s5, .emp, .emp]) s2 [.val v_polygon, .val v_other, .val s2, .emp, .emp] (fun (vs13 : List PV) (s5 : PV) => [.val v_polygon, .val v_other, .val s5, .val (vs13.getD 0 .non), .val (vs13.getD 1 .non)]) ?_ ?_ ?_ ?_ ?_
      · intro K
        exact rfl
      · exact rfl
      · intro x s K
        exact rfl
      · intro s
        exact rfl
      · intro vs13 s5 k10 k11
        exact rfl
    · intro s4
      exact rfl
theorem b_cut_out (C : Str → List PV → Out) (v_polygon v_other : PV) : runK prog (tbOf prog C) d_cut_out [v_polygon, v_other] = mm_cut_out C v_polygon v_other := by
  refine (runK_pos rfl).trans ?_
  unfold mm_cut_out
  refine cut 3 (fun (s2 : List PV × PV) => [.val v_polygon, .val v_other, .own s2.1, .val s2.2, .emp, .emp, .emp]) ?_ ?_
  · intro k39
    exact rfl
  · intro s2
    refine cut 1 (fun (s7 : List PV × PV) => [.val v_polygon, .val v_other, .own s7.1, .val s7.2, .emp, .emp, .emp]) ?_ ?_
    · intro k38
      refine forPt 2 (fun (s8 : List PV × PV) => [.val v_polygon, .val v_other, .own s8.1, .val s8.2, .emp, .emp, .emp]) (s2.1, s2.2) [.val v_polygon, .val v_other, .own s2.1, .val s2.2, .emp, .emp, .emp] (fun (vs24 : List PV) (s8 : List PV × PV) => [.val v_polygon, .val v_other, .own s8.1, .val s8.2, .val (vs24.getD 0 .non), .val (vs24.getD 1 .non), .emp]) ?_ ?_ ?_ ?_ ?_
      · intro K
        exact rfl
      · exact rfl
      · intro x s K
        exact rfl
      · intro s
        exact rfl
      · intro vs24 s8 k21 k22
        refine cut 1 (fun (s26 : PV) => [.val v_polygon, .val v_other, .own s8.1, .val s8.2, .val (vs24.getD 0 .non), .val (vs24.getD 1 .non), .val s26]) ?_ ?_
        · intro k34
          exact rfl
        · intro s26
          refine cut 1 (fun (s29 : List PV) => [.val v_polygon, .val v_other, .own s29, .val s8.2, .val (vs24.getD 0 .non), .val (vs24.getD 1 .non), .val s26]) ?_ ?_
          · intro k33
            exact rfl
          · intro s29
            exact rfl
    · intro s7
      exact rfl
theorem b_without (C : Str → List PV → Out) (v_polygon v_others : PV) : runK prog (tbOf prog C) d_without [v_polygon, v_others] = mm_without C v_polygon v_others := by
  refine (runK_pos rfl).trans ?_
  unfold mm_without
  refine cut 1 (fun (s2 : List PV) => [.val v_polygon, .val v_others, .own s2, .emp, .emp, .emp, .emp]) ?_ ?_
  · intro k99
    exact rfl
  · intro s2
    refine cut 1 (fun (s4 : PV) => [.val v_polygon, .val v_others, .val s4, .emp, .emp, .emp, .emp]) ?_ ?_
    · intro k98
      refine forP (fun (s28 : PV) => [.val v_polygon, .val v_others, .val s28, .emp, .emp, .emp, .emp]) (.lst s2) [.val v_polygon, .val v_others, .own s2, .emp, .emp, .emp, .emp] (fun (x53 : PV) (s28 : PV) => [.val v_polygon, .val v_others, .val s28, .val x53, .emp, .emp, .emp]) ?_ ?_ ?_ ?_ ?_
      · intro K
        exact rfl
      · exact rfl
      · intro x s K
        exact rfl
      · intro s
        exact rfl
      · intro x53 s28 k51 k52
        refine cut 1 (fun (s55 : List PV) => [.val v_polygon, .val v_others, .val s28, .val x53, .emp, .emp, .own s55]) ?_ ?_
        · intro k74
          exact rfl
        · intro s55
          refine cut 1 (fun (s57 : PV) => [.val v_polygon, .val v_others, .val s28, .val x53, .emp, .emp, .val s57]) ?_ ?_
          · intro k73
            refine forP (fun (s62 : PV) => [.val v_polygon, .val v_others, .val s28, .val x53, .emp, .emp, .val s62]) (.lst s55) [.val v_polygon, .val v_others, .val s28, .val x53, .emp, .emp, .own s55] (fun (x68 : PV) (s62 : PV) => [.val v_polygon, .val v_others, .val s28, .val x53, .emp, .val x68, .val s62]) ?_ ?_ ?_ ?_ ?_
            · intro K
              exact rfl
            · exact rfl
            · intro x s K
              exact rfl
            · intro s
              exact rfl
            · intro x68 s62 k66 k67
              exact rfl
          · intro s57
            exact rfl
    · intro s4
      refine cut 1 (fun (s78 : PV) => [.val v_polygon, .val v_others, .val s4, .emp, .val s78, .emp, .emp]) ?_ ?_
      · intro k97
        exact rfl
      · intro s78
        refine cut 1 (fun (s80 : PV) => [.val v_polygon, .val v_others, .val s4, .emp, .val s80, .emp, .emp]) ?_ ?_
        · intro k96
          refine forP (fun (s81 : PV) => [.val v_polygon, .val v_others, .val s4, .emp, .val s81, .emp, .emp]) s78 [.val v_polygon, .val v_others, .val s4, .emp, .val s78, .emp, .emp] (fun (x89 : PV) (s81 : PV) => [.val v_polygon, .val v_others, .val s4, .emp, .val s81, .val x89, .emp]) ?_ ?_ ?_ ?_ ?_
          · intro K
            exact rfl
          · exact rfl
          · intro x s K
            exact rfl
          · intro s
            exact rfl
          · intro x89 s81 k87 k88
            exact rfl
        · intro s80
          exact rfl
theorem b__law_cell (C : Str → List PV → Out) (v_script v_k : PV) : runK prog (tbOf prog C) d__law_cell [v_script, v_k] = mm__law_cell C v_script v_k := by
  refine (runK_pos rfl).trans ?_
  unfold mm__law_cell
  exact rfl
theorem b__law_row (C : Str → List PV → Out) (v_cell v_size v_base : PV) : runK prog (tbOf prog C) d__law_row [v_cell, v_size, v_base] = mm__law_row C v_cell v_size v_base := by
  refine (runK_pos rfl).trans ?_
  unfold mm__law_row
  refine cut 2 (fun (s2 : List PV × PV) => [.val v_cell, .val v_size, .val v_base, .own s2.1, .val s2.2, .emp, .emp]) ?_ ?_
  · intro k57
    exact rfl
  · intro s2
    refine cut 1 (fun (s4 : List PV × PV) => [.val v_cell, .val v_size, .val v_base, .own s4.1, .val s4.2, .emp, .emp]) ?_ ?_
    · intro k56
      refine forP (fun (s5 : List PV × PV) => [.val v_cell, .val v_size, .val v_base, .own s5.1, .val s5.2, .emp, .emp]) (s2.1, s2.2) [.val v_cell, .val v_size, .val v_base, .own s2.1, .val s2.2, .emp, .emp] (fun (x31 : PV) (s5 : List PV × PV) => [.val v_cell, .val v_size, .val v_base, .own s5.1, .val s5.2, .val x31, .emp]) ?_ ?_ ?_ ?_ ?_
      · intro K
        exact rfl
      · exact rfl
      · intro x s K
        exact rfl
      · intro s
        exact rfl
      · intro x31 s5 k29 k30
        exact rfl
    · intro s4
      exact rfl
theorem b__law_fraction (C : Str → List PV → Out) (v_number v_divisor : PV) : runK prog (tbOf prog C) d__law_fraction [v_number, v_divisor] = mm__law_fraction C v_number v_divisor := by
  refine (runK_pos rfl).trans ?_
  unfold mm__law_fraction
  refine cut 2 (fun (s2 : PV × PV) => [.val v_number, .val v_divisor, .val s2.1, .val s2.2, .emp]) ?_ ?_
  · intro k29
    exact rfl
  · intro s2
    refine cut 1 (fun (s6 : PV × PV) => [.val v_number, .val v_divisor, .val s6.1, .val s6.2, .emp]) ?_ ?_
    · intro k28
      refine forP (fun (s7 : PV × PV) => [.val v_number, .val v_divisor, .val s7.1, .val s7.2, .emp]) (s2.1, s2.2) [.val v_number, .val v_divisor, .val s2.1, .val s2.2, .emp] (fun (x13 : PV) (s7 : PV × PV) => [.val v_number, .val v_divisor, .val s7.1, .val s7.2, .val x13]) ?_ ?_ ?_ ?_ ?_
      · intro K
        exact rfl
      · exact rfl
      · intro x s K
        exact rfl
      · intro s
        exact rfl
      · intro x13 s7 k11 k12
        exact rfl
    · intro s6
      refine cut 1 (fun (s19 : PV) => [.val v_number, .val v_divisor, .val s19, .val s6.2, .emp]) ?_ ?_
      · intro k27
        exact rfl
      · intro s19
        exact rfl
theorem b__law_plus (C : Str → List PV → Out) (v_a v_b : PV) : runK prog (tbOf prog C) d__law_plus [v_a, v_b] = mm__law_plus C v_a v_b := by
  refine (runK_pos rfl).trans ?_
  unfold mm__law_plus
  exact rfl
theorem b__law_minus (C : Str → List PV → Out) (v_a v_b : PV) : runK prog (tbOf prog C) d__law_minus [v_a, v_b] = mm__law_minus C v_a v_b := by
  refine (runK_pos rfl).trans ?_
  unfold mm__law_minus
  exact rfl
theorem b__law_times (C : Str → List PV → Out) (v_a v_b : PV) : runK prog (tbOf prog C) d__law_times [v_a, v_b] = mm__law_times C v_a v_b := by
  refine (runK_pos rfl).trans ?_
  unfold mm__law_times
  exact rfl
theorem b__law_over (C : Str → List PV → Out) (v_a v_b : PV) : runK prog (tbOf prog C) d__law_over [v_a, v_b] = mm__law_over C v_a v_b := by
  refine (runK_pos rfl).trans ?_
  unfold mm__law_over
  exact rfl
theorem b__law_less (C : Str → List PV → Out) (v_a v_b : PV) : runK prog (tbOf prog C) d__law_less [v_a, v_b] = mm__law_less C v_a v_b := by
  refine (runK_pos rfl).trans ?_
  unfold mm__law_less
  exact rfl
theorem b__law_middle (C : Str → List PV → Out) (v_a v_b : PV) : runK prog (tbOf prog C) d__law_middle [v_a, v_b] = mm__law_middle C v_a v_b := by
  refine (runK_pos rfl).trans ?_
  unfold mm__law_middle
  exact rfl
theorem b__law_turn (C : Str → List PV → Out) (v_a v_b v_c : PV) : runK prog (tbOf prog C) d__law_turn [v_a, v_b, v_c] = mm__law_turn C v_a v_b v_c := by
  refine (runK_pos rfl).trans ?_
  unfold mm__law_turn
  exact rfl
theorem b__law_is_side (C : Str → List PV → Out) (v_points v_a v_b : PV) : runK prog (tbOf prog C) d__law_is_side [v_points, v_a, v_b] = mm__law_is_side C v_points v_a v_b := by
  refine (runK_pos rfl).trans ?_
  unfold mm__law_is_side
  refine cut 1 (fun (s2 : Unit) => [.val v_points, .val v_a, .val v_b, .emp, .emp, .emp]) ?_ ?_
  · intro k136
    refine forP (fun (s3 : Unit) => [.val v_points, .val v_a, .val v_b, .emp, .emp, .emp]) () [.val v_points, .val v_a, .val v_b, .emp, .emp, .emp] (fun (x70 : PV) (s3 : Unit) => [.val v_points, .val v_a, .val v_b, .val x70, .emp, .emp]) ?_ ?_ ?_ ?_ ?_
    · intro K
      exact rfl
    · exact rfl
    · intro x s K
      exact rfl
    · intro s
      exact rfl
    · intro x70 s3 k68 k69
      refine cut 2 (fun (s72 : PV) => [.val v_points, .val v_a, .val v_b, .val x70, .val s72, .emp]) ?_ ?_
      · intro k133
        exact rfl
      · intro s72
        refine ifP ?_ ?_ ?_
        · exact rfl
        · refine forP (fun (s76 : Unit) => [.val v_points, .val v_a, .val v_b, .val x70, .val s72, .emp]) () [.val v_points, .val v_a, .val v_b, .val x70, .val s72, .emp] (fun (x104 : PV) (s76 : Unit) => [.val v_points, .val v_a, .val v_b, .val x70, .val s72, .val x104]) ?_ ?_ ?_ ?_ ?_
          · intro K
            exact rfl
          · exact rfl
          · intro x s K
            exact rfl
          · intro s
            exact rfl
          · intro x104 s76 k102 k103
            exact rfl
        · exact rfl
  · intro s2
    exact rfl
theorem b__law_least (C : Str → List PV → Out) (v_points : PV) : runK prog (tbOf prog C) d__law_least [v_points] = mm__law_least C v_points := by
  refine (runK_pos rfl).trans ?_
  unfold mm__law_least
  refine cut 1 (fun (s2 : PV) => [.val v_points, .val s2, .emp]) ?_ ?_
  · intro k44
    exact rfl
  · intro s2
    refine cut 1 (fun (s5 : PV) => [.val v_points, .val s5, .emp]) ?_ ?_
    · intro k43
      refine forP (fun (s6 : PV) => [.val v_points, .val s6, .emp]) s2 [.val v_points, .val s2, .emp] (fun (x25 : PV) (s6 : PV) => [.val v_points, .val s6, .val x25]) ?_ ?_ ?_ ?_ ?_
      · intro K
        exact rfl
      · exact rfl
      · intro x s K
        exact rfl
      · intro s
        exact rfl
      · intro x25 s6 k23 k24
        exact rfl
    · intro s5
      exact rfl
theorem b__law_other (C : Str → List PV → Out) (v_points : PV) : runK prog (tbOf prog C) d__law_other [v_points] = mm__law_other C v_points := by
  refine (runK_pos rfl).trans ?_
  unfold mm__law_other
  refine cut 1 (fun (s2 : Unit) => [.val v_points, .emp]) ?_ ?_
  · intro k15
    refine forP (fun (s3 : Unit) => [.val v_points, .emp]) () [.val v_points, .emp] (fun (x9 : PV) (s3 : Unit) => [.val v_points, .val x9]) ?_ ?_ ?_ ?_ ?_
    · intro K
      exact rfl
    · exact rfl
    · intro x s K
      exact rfl
    · intro s
      exact rfl
    · intro x9 s3 k7 k8
      exact rfl
  · intro s2
    exact rfl
theorem b__law_hull (C : Str → List PV → Out) (v_points : PV) : runK prog (tbOf prog C) d__law_hull [v_points] = mm__law_hull C v_points := by
  refine (runK_pos rfl).trans ?_
  unfold mm__law_hull
  refine cut 2 (fun (s2 : List PV) => [.val v_points, .dct s2, .emp, .emp, .emp, .emp, .emp]) ?_ ?_
  · intro k86
    exact rfl
  · intro s2
    refine cut 1 (fun (s16 : List PV) => [.val v_points, .dct s16, .emp, .emp, .emp, .emp, .emp]) ?_ ?_
    · intro k85
      refine forP (fun (s17 : List PV) => [.val v_points, .dct s17, .emp, .emp, .emp, .emp, .emp]) s2 [.val v_points, .dct s2, .emp, .emp, .emp, .emp, .emp] (fun (x36 : PV) (s17 : List PV) => [.val v_points, .dct s17, .val x36, .emp, .emp, .emp, .emp]) ?_ ?_ ?_ ?_ ?_
      · intro K
        exact rfl
      · exact rfl
      · intro x s K
        exact rfl
      · intro s
        exact rfl
      · intro x36 s17 k34 k35
        refine forP (fun (s37 : List PV) => [.val v_points, .dct s37, .val x36, .emp, .emp, .emp, .emp]) s17 [.val v_points, .dct s17, .val x36, .emp, .emp, .emp, .emp] (fun (x45 : PV) (s37 : List PV) => [.val v_points, .dct s37, .val x36, .emp, .emp, .val x45, .emp]) ?_ ?_ ?_ ?_ ?_
        · intro K
          exact rfl
        · exact rfl
        · intro x s K
          exact rfl
        · intro s
          exact rfl
        · intro x45 s37 k43 k44
          exact rfl
    · intro s16
      refine cut 1 (fun (s55 : List PV) => [.val v_points, .dct s16, .emp, .own s55, .emp, .emp, .emp]) ?_ ?_
      · intro k84
        exact rfl
      · intro s55
        refine cut 1 (fun (s60 : List PV) => [.val v_points, .dct s16, .emp, .own s60, .emp, .emp, .emp]) ?_ ?_
        · intro k83
          refine forP (fun (s61 : List PV) => [.val v_points, .dct s16, .emp, .own s61, .emp, .emp, .emp]) s55 [.val v_points, .dct s16, .emp, .own s55, .emp, .emp, .emp] (fun (x72 : PV) (s61 : List PV) => [.val v_points, .dct s16, .emp, .own s61, .val x72, .emp, .emp]) ?_ ?_ ?_ ?_ ?_
          · intro K
            exact rfl
          · exact rfl
          · intro x s K
            exact rfl
          · intro s
            exact rfl
          · intro x72 s61 k70 k71
            exact rfl
        · intro s60
          exact rfl
theorem b__law_twice (C : Str → List PV → Out) (v_polygon : PV) : runK prog (tbOf prog C) d__law_twice [v_polygon] = mm__law_twice C v_polygon := by
  refine (runK_pos rfl).trans ?_
  unfold mm__law_twice
  refine cut 1 (fun (s2 : PV) => [.val v_polygon, .val s2, .emp]) ?_ ?_
  · intro k37
    exact rfl
  · intro s2
    refine cut 1 (fun (s4 : PV) => [.val v_polygon, .val s4, .emp]) ?_ ?_
    · intro k36
      refine forP (fun (s5 : PV) => [.val v_polygon, .val s5, .emp]) s2 [.val v_polygon, .val s2, .emp] (fun (x20 : PV) (s5 : PV) => [.val v_polygon, .val s5, .val x20]) ?_ ?_ ?_ ?_ ?_
      · intro K
        exact rfl
      · exact rfl
      · intro x s K
        exact rfl
      · intro s
        exact rfl
      · intro x20 s5 k18 k19
        exact rfl
    · intro s4
      exact rfl
theorem b__law_clip (C : Str → List PV → Out) (v_polygon v_start v_end : PV) : runK prog (tbOf prog C) d__law_clip [v_polygon, v_start, v_end] = mm__law_clip C v_polygon v_start v_end := by
  refine (runK_pos rfl).trans ?_
  unfold mm__law_clip
  refine cut 1 (fun (s2 : List PV) => [.val v_polygon, .val v_start, .val v_end, .own s2, .emp, .emp, .emp, .emp, .emp, .emp, .emp]) ?_ ?_
  · intro k100
    exact rfl
  · intro s2
    refine cut 1 (fun (s4 : List PV) => [.val v_polygon, .val v_start, .val v_end, .own s4, .emp, .emp, .emp, .emp, .emp, .emp, .emp]) ?_ ?_
    · intro k99
      refine forP (fun (s5 : List PV) => [.val v_polygon, .val v_start, .val v_end, .own s5, .emp, .emp, .emp, .emp, .emp, .emp, .emp]) s2 [.val v_polygon, .val v_start, .val v_end, .own s2, .emp, .emp, .emp, .emp, .emp, .emp, .emp] (fun (x52 : PV) (s5 : List PV) => [.val v_polygon, .val v_start, .val v_end, .own s5, .val x52, .emp, .emp, .emp, .emp, .emp, .emp]) ?_ ?_ ?_ ?_ ?_
      · intro K
        exact rfl
      · exact rfl
      · intro x s K
        exact rfl
      · intro s
        exact rfl
      · intro x52 s5 k50 k51
        refine cut 4 (fun (s54 : PV × PV × PV × PV) => [.val v_polygon, .val v_start, .val v_end, .own s5, .val x52, .val s54.1, .val s54.2.1, .val s54.2.2.1, .val s54.2.2.2, .emp, .emp]) ?_ ?_
        · intro k95
          exact rfl
        · intro s54
          refine cut 1 (fun (s63 : List PV) => [.val v_polygon, .val v_start, .val v_end, .own s63, .val x52, .val s54.1, .val s54.2.1, .val s54.2.2.1, .val s54.2.2.2, .emp, .emp]) ?_ ?_
          · intro k94
            exact rfl
          · intro s63
            exact rfl
    · intro s4
      exact rfl
theorem b__law_shared (C : Str → List PV → Out) (v_polygons : PV) : runK prog (tbOf prog C) d__law_shared [v_polygons] = mm__law_shared C v_polygons := by
  refine (runK_pos rfl).trans ?_
  unfold mm__law_shared
  refine cut 1 (fun (s2 : PV) => [.val v_polygons, .val s2, .emp, .emp]) ?_ ?_
  · intro k96
    exact rfl
  · intro s2
    refine cut 1 (fun (s5 : PV) => [.val v_polygons, .val s5, .emp, .emp]) ?_ ?_
    · intro k95
      refine forP (fun (s6 : PV) => [.val v_polygons, .val s6, .emp, .emp]) s2 [.val v_polygons, .val s2, .emp, .emp] (fun (x50 : PV) (s6 : PV) => [.val v_polygons, .val s6, .val x50, .emp]) ?_ ?_ ?_ ?_ ?_
      · intro K
        exact rfl
      · exact rfl
      · intro x s K
        exact rfl
      · intro s
        exact rfl
      · intro x50 s6 k48 k49
        refine forP (fun (s63 : PV) => [.val v_polygons, .val s63, .val x50, .emp]) s6 [.val v_polygons, .val s6, .val x50, .emp] (fun (x77 : PV) (s63 : PV) => [.val v_polygons, .val s63, .val x50, .val x77]) ?_ ?_ ?_ ?_ ?_
        · intro K
          exact rfl
        · exact rfl
        · intro x s K
          exact rfl
        · intro s
          exact rfl
        · intro x77 s63 k75 k76
          exact rfl
    · intro s5
      exact rfl
theorem b__law_points (C : Str → List PV → Out) (v_script : PV) : runK prog (tbOf prog C) d__law_points [v_script] = mm__law_points C v_script := by
  refine (runK_pos rfl).trans ?_
  unfold mm__law_points
  refine cut 1 (fun (s2 : List PV) => [.val v_script, .own s2, .emp, .emp, .emp, .emp, .emp]) ?_ ?_
  · intro k135
    exact rfl
  · intro s2
    refine cut 1 (fun (s4 : List PV) => [.val v_script, .own s4, .emp, .emp, .emp, .emp, .emp]) ?_ ?_
    · intro k134
      refine forP (fun (s5 : List PV) => [.val v_script, .own s5, .emp, .emp, .emp, .emp, .emp]) s2 [.val v_script, .own s2, .emp, .emp, .emp, .emp, .emp] (fun (x68 : PV) (s5 : List PV) => [.val v_script, .own s5, .val x68, .emp, .emp, .emp, .emp]) ?_ ?_ ?_ ?_ ?_
      · intro K
        exact rfl
      · exact rfl
      · intro x s K
        exact rfl
      · intro s
        exact rfl
      · intro x68 s5 k66 k67
        refine cut 3 (fun (s70 : PV × PV × PV) => [.val v_script, .own s5, .val x68, .val s70.1, .val s70.2.1, .val s70.2.2, .emp]) ?_ ?_
        · intro k127
          exact rfl
        · intro s70
          refine cut 1 (fun (s94 : PV) => [.val v_script, .own s5, .val x68, .val s70.1, .val s70.2.1, .val s94, .emp]) ?_ ?_
          · intro k126
            exact rfl
          · intro s94
            refine cut 1 (fun (s105 : PV) => [.val v_script, .own s5, .val x68, .val s70.1, .val s70.2.1, .val s105, .emp]) ?_ ?_
            · intro k125
              exact rfl
            · intro s105
              exact rfl
    · intro s4
      exact rfl
theorem b__law_shoelace (C : Str → List PV → Out) (v_row : PV) : runK prog (tbOf prog C) d__law_shoelace [v_row] = mm__law_shoelace C v_row := by
  refine (runK_pos rfl).trans ?_
  unfold mm__law_shoelace
  refine cut 1 (fun (s2 : PV) => [.val v_row, .val s2, .emp, .emp, .emp]) ?_ ?_
  · intro k56
    exact rfl
  · intro s2
    refine cut 1 (fun (s4 : PV) => [.val v_row, .val s4, .emp, .emp, .emp]) ?_ ?_
    · intro k55
      refine forP (fun (s5 : PV) => [.val v_row, .val s5, .emp, .emp, .emp]) s2 [.val v_row, .val s2, .emp, .emp, .emp] (fun (x30 : PV) (s5 : PV) => [.val v_row, .val s5, .val x30, .emp, .emp]) ?_ ?_ ?_ ?_ ?_
      · intro K
        exact rfl
      · exact rfl
      · intro x s K
        exact rfl
      · intro s
        exact rfl
      · intro x30 s5 k28 k29
        exact rfl
    · intro s4
      exact rfl
theorem b__law_right_hull (C : Str → List PV → Out) (v_points : PV) : runK prog (tbOf prog C) d__law_right_hull [v_points] = mm__law_right_hull C v_points := by
  refine (runK_pos rfl).trans ?_
  unfold mm__law_right_hull
  refine cut 1 (fun (s2 : List PV) => [.val v_points, .own s2, .emp, .emp]) ?_ ?_
  · intro k29
    exact rfl
  · intro s2
    refine cut 1 (fun (s4 : List PV) => [.val v_points, .own s4, .emp, .emp]) ?_ ?_
    · intro k28
      exact rfl
    · intro s4
      refine cut 4 (fun (s8 : PV × PV) => [.val v_points, .own s4, .val s8.1, .val s8.2]) ?_ ?_
      · intro k27
        exact rfl
      · intro s8
        exact rfl
theorem b__law_drawn (C : Str → List PV → Out) (v_cell : PV) : runK prog (tbOf prog C) d__law_drawn [v_cell] = mm__law_drawn C v_cell := by
  refine (runK_pos rfl).trans ?_
  unfold mm__law_drawn
  refine cut 2 (fun (s2 : List PV × List PV) => [.val v_cell, .own s2.1, .own s2.2, .emp, .emp, .emp]) ?_ ?_
  · intro k69
    exact rfl
  · intro s2
    refine cut 1 (fun (s5 : PV × List PV) => [.val v_cell, .val s5.1, .own s5.2, .emp, .emp, .emp]) ?_ ?_
    · intro k68
      refine forP (fun (s6 : List PV) => [.val v_cell, .val (.lst s2.1), .own s6, .emp, .emp, .emp]) s2.2 [.val v_cell, .val (.lst s2.1), .own s2.2, .emp, .emp, .emp] (fun (x32 : PV) (s6 : List PV) => [.val v_cell, .val (.lst s2.1), .own s6, .val x32, .emp, .emp]) ?_ ?_ ?_ ?_ ?_
      · intro K
        exact rfl
      · exact rfl
      · intro x s K
        exact rfl
      · intro s
        exact rfl
      · intro x32 s6 k30 k31
        exact rfl
    · intro s5
      refine cut 1 (fun (s61 : PV × List PV) => [.val v_cell, .val s5.1, .val s61.1, .emp, .own s61.2, .emp]) ?_ ?_
      · intro k67
        exact rfl
      · intro s61
        refine cut 1 (fun (s64 : List PV) => [.val v_cell, .val s5.1, .val s61.1, .emp, .own s64, .emp]) ?_ ?_
        · intro k66
          exact rfl
        · intro s64
          exact rfl
theorem b__law_is_left (C : Str → List PV → Out) (v_row v_start v_end : PV) : runK prog (tbOf prog C) d__law_is_left [v_row, v_start, v_end] = mm__law_is_left C v_row v_start v_end := by
  refine (runK_pos rfl).trans ?_
  unfold mm__law_is_left
  refine cut 1 (fun (s2 : Unit) => [.val v_row, .val v_start, .val v_end, .emp]) ?_ ?_
  · intro k20
    refine forP (fun (s3 : Unit) => [.val v_row, .val v_start, .val v_end, .emp]) () [.val v_row, .val v_start, .val v_end, .emp] (fun (x10 : PV) (s3 : Unit) => [.val v_row, .val v_start, .val v_end, .val x10]) ?_ ?_ ?_ ?_ ?_
    · intro K
      exact rfl
    · exact rfl
    · intro x s K
      exact rfl
    · intro s
      exact rfl
    · intro x10 s3 k8 k9
      exact rfl
  · intro s2
    exact rfl
theorem b_law (C : Str → List PV → Out) (v_script : PV) : runK prog (tbOf prog C) d_law [v_script] = mm_law C v_script := by
  refine (runK_pos rfl).trans ?_
  unfold mm_law
  refine cut 4 (fun (s2 : List PV × List PV × List PV) => [.val v_script, .own s2.1, .own s2.2.1, .own s2.2.2, .emp, .emp, .emp, .emp, .emp, .emp, .emp, .emp]) ?_ ?_
  · intro k149
    exact rfl
  · intro s2
    refine cut 1 (fun (s29 : PV × PV) => [.val v_script, .own s2.1, .own s2.2.1, .val s29.1, .val s29.2, .emp, .emp, .emp, .emp, .emp, .emp, .emp]) ?_ ?_
    · intro k148
      exact rfl
    · intro s29
      refine cut 3 (fun (s44 : PV × PV × PV × PV) => [.val v_script, .val s44.1, .own s2.2.1, .val s29.1, .val s29.2, .val s44.2.1, .val s44.2.2.1, .val s44.2.2.2, .emp, .emp, .emp, .emp]) ?_ ?_
      · intro k147
        exact rfl
      · intro s44
        refine cut 4 (fun (s73 : PV) => [.val v_script, .val s44.1, .own s2.2.1, .val s29.1, .val s29.2, .val s44.2.1, .val s44.2.2.1, .val s44.2.2.2, .val s73, .emp, .emp, .emp]) ?_ ?_
        · intro k146
          exact rfl
        · intro s73
          refine cut 1 (fun (s94 : PV × PV) => [.val v_script, .val s44.1, .val s94.1, .val s29.1, .val s29.2, .val s44.2.1, .val s44.2.2.1, .val s44.2.2.2, .val s94.2, .emp, .emp, .emp]) ?_ ?_
          · intro k145
            refine forP (fun (s95 : PV) => [.val v_script, .val s44.1, .val (.lst s2.2.1), .val s29.1, .val s29.2, .val s44.2.1, .val s44.2.2.1, .val s44.2.2.2, .val s95, .emp, .emp, .emp]) s73 [.val v_script, .val s44.1, .val (.lst s2.2.1), .val s29.1, .val s29.2, .val s44.2.1, .val s44.2.2.1, .val s44.2.2.2, .val s73, .emp, .emp, .emp] (fun (x103 : PV) (s95 : PV) => [.val v_script, .val s44.1, .val (.lst s2.2.1), .val s29.1, .val s29.2, .val s44.2.1, .val s44.2.2.1, .val s44.2.2.2, .val s95, .val x103, .emp, .emp]) ?_ ?_ ?_ ?_ ?_
            · intro K
              exact rfl
            · exact rfl
            · intro x s K
              exact rfl
            · intro s
              exact rfl
            · intro x103 s95 k101 k102
              exact rfl
          · intro s94
            refine cut 1 (fun (s111 : PV) => [.val v_script, .val s44.1, .val s94.1, .val s29.1, .val s29.2, .val s44.2.1, .val s44.2.2.1, .val s44.2.2.2, .val s111, .emp, .emp, .emp]) ?_ ?_
            · intro k144
              exact rfl
            · intro s111
              exact rfl
theorem r_common_numbers (d : Nat) (v_a v_b : PV) : run prog (d + 1) "common_numbers" [v_a, v_b] = mm_common_numbers (run prog d) v_a v_b := (runK_eq rfl _).trans (b_common_numbers _ v_a v_b)
theorem r_fraction (d : Nat) (v_number v_divisor : PV) : run prog (d + 1) "fraction" [v_number, v_divisor] = mm_fraction (run prog d) v_number v_divisor := (runK_eq rfl _).trans (b_fraction _ v_number v_divisor)
theorem r_plus (d : Nat) (v_a v_b : PV) : run prog (d + 1) "plus" [v_a, v_b] = mm_plus (run prog d) v_a v_b := (runK_eq rfl _).trans (b_plus _ v_a v_b)
theorem r_minus (d : Nat) (v_a v_b : PV) : run prog (d + 1) "minus" [v_a, v_b] = mm_minus (run prog d) v_a v_b := (runK_eq rfl _).trans (b_minus _ v_a v_b)
theorem r_times (d : Nat) (v_a v_b : PV) : run prog (d + 1) "times" [v_a, v_b] = mm_times (run prog d) v_a v_b := (runK_eq rfl _).trans (b_times _ v_a v_b)
theorem r_over (d : Nat) (v_a v_b : PV) : run prog (d + 1) "over" [v_a, v_b] = mm_over (run prog d) v_a v_b := (runK_eq rfl _).trans (b_over _ v_a v_b)
theorem r_less (d : Nat) (v_a v_b : PV) : run prog (d + 1) "less" [v_a, v_b] = mm_less (run prog d) v_a v_b := (runK_eq rfl _).trans (b_less _ v_a v_b)
theorem r_sign (d : Nat) (v_a : PV) : run prog (d + 1) "sign" [v_a] = mm_sign (run prog d) v_a := (runK_eq rfl _).trans (b_sign _ v_a)
theorem r_turn (d : Nat) (v_a v_b v_c : PV) : run prog (d + 1) "turn" [v_a, v_b, v_c] = mm_turn (run prog d) v_a v_b v_c := (runK_eq rfl _).trans (b_turn _ v_a v_b v_c)
theorem r_smaller (d : Nat) (v_a v_b : PV) : run prog (d + 1) "smaller" [v_a, v_b] = mm_smaller (run prog d) v_a v_b := (runK_eq rfl _).trans (b_smaller _ v_a v_b)
theorem r_put_in (d : Nat) (v_point v_row : PV) : run prog (d + 1) "put_in" [v_point, v_row] = mm_put_in (run prog d) v_point v_row := (runK_eq rfl _).trans (b_put_in _ v_point v_row)
theorem r_chain (d : Nat) (v_row : PV) : run prog (d + 1) "chain" [v_row] = mm_chain (run prog d) v_row := (runK_eq rfl _).trans (b_chain _ v_row)
theorem r_hull (d : Nat) (v_points : PV) : run prog (d + 1) "hull" [v_points] = mm_hull (run prog d) v_points := (runK_eq rfl _).trans (b_hull _ v_points)
theorem r_size_of (d : Nat) (v_polygon : PV) : run prog (d + 1) "size_of" [v_polygon] = mm_size_of (run prog d) v_polygon := (runK_eq rfl _).trans (b_size_of _ v_polygon)
theorem r_crossing (d : Nat) (v_a v_b v_at_a v_at_b : PV) : run prog (d + 1) "crossing" [v_a, v_b, v_at_a, v_at_b] = mm_crossing (run prog d) v_a v_b v_at_a v_at_b := (runK_eq rfl _).trans (b_crossing _ v_a v_b v_at_a v_at_b)
theorem r_left_of (d : Nat) (v_polygon v_start v_end : PV) : run prog (d + 1) "left_of" [v_polygon, v_start, v_end] = mm_left_of (run prog d) v_polygon v_start v_end := (runK_eq rfl _).trans (b_left_of _ v_polygon v_start v_end)
theorem r_sides_of (d : Nat) (v_polygon : PV) : run prog (d + 1) "sides_of" [v_polygon] = mm_sides_of (run prog d) v_polygon := (runK_eq rfl _).trans (b_sides_of _ v_polygon)
theorem r_common_polygons (d : Nat) (v_polygon v_other : PV) : run prog (d + 1) "common_polygons" [v_polygon, v_other] = mm_common_polygons (run prog d) v_polygon v_other := (runK_eq rfl _).trans (b_common_polygons _ v_polygon v_other)
theorem r_cut_out (d : Nat) (v_polygon v_other : PV) : run prog (d + 1) "cut_out" [v_polygon, v_other] = mm_cut_out (run prog d) v_polygon v_other := (runK_eq rfl _).trans (b_cut_out _ v_polygon v_other)
theorem r_without (d : Nat) (v_polygon v_others : PV) : run prog (d + 1) "without" [v_polygon, v_others] = mm_without (run prog d) v_polygon v_others := (runK_eq rfl _).trans (b_without _ v_polygon v_others)
theorem r__law_cell (d : Nat) (v_script v_k : PV) : run prog (d + 1) "_law_cell" [v_script, v_k] = mm__law_cell (run prog d) v_script v_k := (runK_eq rfl _).trans (b__law_cell _ v_script v_k)
theorem r__law_row (d : Nat) (v_cell v_size v_base : PV) : run prog (d + 1) "_law_row" [v_cell, v_size, v_base] = mm__law_row (run prog d) v_cell v_size v_base := (runK_eq rfl _).trans (b__law_row _ v_cell v_size v_base)
theorem r__law_fraction (d : Nat) (v_number v_divisor : PV) : run prog (d + 1) "_law_fraction" [v_number, v_divisor] = mm__law_fraction (run prog d) v_number v_divisor := (runK_eq rfl _).trans (b__law_fraction _ v_number v_divisor)
theorem r__law_plus (d : Nat) (v_a v_b : PV) : run prog (d + 1) "_law_plus" [v_a, v_b] = mm__law_plus (run prog d) v_a v_b := (runK_eq rfl _).trans (b__law_plus _ v_a v_b)
theorem r__law_minus (d : Nat) (v_a v_b : PV) : run prog (d + 1) "_law_minus" [v_a, v_b] = mm__law_minus (run prog d) v_a v_b := (runK_eq rfl _).trans (b__law_minus _ v_a v_b)
theorem r__law_times (d : Nat) (v_a v_b : PV) : run prog (d + 1) "_law_times" [v_a, v_b] = mm__law_times (run prog d) v_a v_b := (runK_eq rfl _).trans (b__law_times _ v_a v_b)
theorem r__law_over (d : Nat) (v_a v_b : PV) : run prog (d + 1) "_law_over" [v_a, v_b] = mm__law_over (run prog d) v_a v_b := (runK_eq rfl _).trans (b__law_over _ v_a v_b)
theorem r__law_less (d : Nat) (v_a v_b : PV) : run prog (d + 1) "_law_less" [v_a, v_b] = mm__law_less (run prog d) v_a v_b := (runK_eq rfl _).trans (b__law_less _ v_a v_b)
theorem r__law_middle (d : Nat) (v_a v_b : PV) : run prog (d + 1) "_law_middle" [v_a, v_b] = mm__law_middle (run prog d) v_a v_b := (runK_eq rfl _).trans (b__law_middle _ v_a v_b)
theorem r__law_turn (d : Nat) (v_a v_b v_c : PV) : run prog (d + 1) "_law_turn" [v_a, v_b, v_c] = mm__law_turn (run prog d) v_a v_b v_c := (runK_eq rfl _).trans (b__law_turn _ v_a v_b v_c)
theorem r__law_is_side (d : Nat) (v_points v_a v_b : PV) : run prog (d + 1) "_law_is_side" [v_points, v_a, v_b] = mm__law_is_side (run prog d) v_points v_a v_b := (runK_eq rfl _).trans (b__law_is_side _ v_points v_a v_b)
theorem r__law_least (d : Nat) (v_points : PV) : run prog (d + 1) "_law_least" [v_points] = mm__law_least (run prog d) v_points := (runK_eq rfl _).trans (b__law_least _ v_points)
theorem r__law_other (d : Nat) (v_points : PV) : run prog (d + 1) "_law_other" [v_points] = mm__law_other (run prog d) v_points := (runK_eq rfl _).trans (b__law_other _ v_points)
theorem r__law_hull (d : Nat) (v_points : PV) : run prog (d + 1) "_law_hull" [v_points] = mm__law_hull (run prog d) v_points := (runK_eq rfl _).trans (b__law_hull _ v_points)
theorem r__law_twice (d : Nat) (v_polygon : PV) : run prog (d + 1) "_law_twice" [v_polygon] = mm__law_twice (run prog d) v_polygon := (runK_eq rfl _).trans (b__law_twice _ v_polygon)
theorem r__law_clip (d : Nat) (v_polygon v_start v_end : PV) : run prog (d + 1) "_law_clip" [v_polygon, v_start, v_end] = mm__law_clip (run prog d) v_polygon v_start v_end := (runK_eq rfl _).trans (b__law_clip _ v_polygon v_start v_end)
theorem r__law_shared (d : Nat) (v_polygons : PV) : run prog (d + 1) "_law_shared" [v_polygons] = mm__law_shared (run prog d) v_polygons := (runK_eq rfl _).trans (b__law_shared _ v_polygons)
theorem r__law_points (d : Nat) (v_script : PV) : run prog (d + 1) "_law_points" [v_script] = mm__law_points (run prog d) v_script := (runK_eq rfl _).trans (b__law_points _ v_script)
theorem r__law_shoelace (d : Nat) (v_row : PV) : run prog (d + 1) "_law_shoelace" [v_row] = mm__law_shoelace (run prog d) v_row := (runK_eq rfl _).trans (b__law_shoelace _ v_row)
theorem r__law_right_hull (d : Nat) (v_points : PV) : run prog (d + 1) "_law_right_hull" [v_points] = mm__law_right_hull (run prog d) v_points := (runK_eq rfl _).trans (b__law_right_hull _ v_points)
theorem r__law_drawn (d : Nat) (v_cell : PV) : run prog (d + 1) "_law_drawn" [v_cell] = mm__law_drawn (run prog d) v_cell := (runK_eq rfl _).trans (b__law_drawn _ v_cell)
theorem r__law_is_left (d : Nat) (v_row v_start v_end : PV) : run prog (d + 1) "_law_is_left" [v_row, v_start, v_end] = mm__law_is_left (run prog d) v_row v_start v_end := (runK_eq rfl _).trans (b__law_is_left _ v_row v_start v_end)
theorem r_law (d : Nat) (v_script : PV) : run prog (d + 1) "law" [v_script] = mm_law (run prog d) v_script := (runK_eq rfl _).trans (b_law _ v_script)
end K66

namespace K66
open PySem L2 Pv
section
variable {K : PySem.W.Frag} {mg : Str → Option Value}
theorem pg_ok {w : World} {h : Heap} (X : K.In h) (G : h.Ns mainGlobals mg) {f0 : Addr} {oc0 kV0 dc0 pm0 cd0 ct0 : Value} {od0 an0 : Option Addr} {sl0 : Array (Option Value)} {f1 : Addr} {oc1 kV1 dc1 pm1 cd1 ct1 : Value} {od1 an1 : Option Addr} {sl1 : Array (Option Value)} {T1 : Addr} {o1 : Obj} {n1 : Nat} {tk1_0 : Tok} {f2 : Addr} {oc2 kV2 dc2 pm2 cd2 ct2 : Value} {od2 an2 : Option Addr} {sl2 : Array (Option Value)} {f3 : Addr} {oc3 kV3 dc3 pm3 cd3 ct3 : Value} {od3 an3 : Option Addr} {sl3 : Array (Option Value)} {f4 : Addr} {oc4 kV4 dc4 pm4 cd4 ct4 : Value} {od4 an4 : Option Addr} {sl4 : Array (Option Value)} {f5 : Addr} {oc5 kV5 dc5 pm5 cd5 ct5 : Value} {od5 an5 : Option Addr} {sl5 : Array (Option Value)} {f6 : Addr} {oc6 kV6 dc6 pm6 cd6 ct6 : Value} {od6 an6 : Option Addr} {sl6 : Array (Option Value)} {f7 : Addr} {oc7 kV7 dc7 pm7 cd7 ct7 : Value} {od7 an7 : Option Addr} {sl7 : Array (Option Value)} {f8 : Addr} {oc8 kV8 dc8 pm8 cd8 ct8 : Value} {od8 an8 : Option Addr} {sl8 : Array (Option Value)} {f9 : Addr} {oc9 kV9 dc9 pm9 cd9 ct9 : Value} {od9 an9 : Option Addr} {sl9 : Array (Option Value)} {f10 : Addr} {oc10 kV10 dc10 pm10 cd10 ct10 : Value} {od10 an10 : Option Addr} {sl10 : Array (Option Value)} {f11 : Addr} {oc11 kV11 dc11 pm11 cd11 ct11 : Value} {od11 an11 : Option Addr} {sl11 : Array (Option Value)} {f12 : Addr} {oc12 kV12 dc12 pm12 cd12 ct12 : Value} {od12 an12 : Option Addr} {sl12 : Array (Option Value)} {f13 : Addr} {oc13 kV13 dc13 pm13 cd13 ct13 : Value} {od13 an13 : Option Addr} {sl13 : Array (Option Value)} {f14 : Addr} {oc14 kV14 dc14 pm14 cd14 ct14 : Value} {od14 an14 : Option Addr} {sl14 : Array (Option Value)} {f15 : Addr} {oc15 kV15 dc15 pm15 cd15 ct15 : Value} {od15 an15 : Option Addr} {sl15 : Array (Option Value)} {f16 : Addr} {oc16 kV16 dc16 pm16 cd16 ct16 : Value} {od16 an16 : Option Addr} {sl16 : Array (Option Value)} {f17 : Addr} {oc17 kV17 dc17 pm17 cd17 ct17 : Value} {od17 an17 : Option Addr} {sl17 : Array (Option Value)} {f18 : Addr} {oc18 kV18 dc18 pm18 cd18 ct18 : Value} {od18 an18 : Option Addr} {sl18 : Array (Option Value)} {f19 : Addr} {oc19 kV19 dc19 pm19 cd19 ct19 : Value} {od19 an19 : Option Addr} {sl19 : Array (Option Value)} {f20 : Addr} {oc20 kV20 dc20 pm20 cd20 ct20 : Value} {od20 an20 : Option Addr} {sl20 : Array (Option Value)} {f21 : Addr} {oc21 kV21 dc21 pm21 cd21 ct21 : Value} {od21 an21 : Option Addr} {sl21 : Array (Option Value)} {f22 : Addr} {oc22 kV22 dc22 pm22 cd22 ct22 : Value} {od22 an22 : Option Addr} {sl22 : Array (Option Value)} {f23 : Addr} {oc23 kV23 dc23 pm23 cd23 ct23 : Value} {od23 an23 : Option Addr} {sl23 : Array (Option Value)} {f24 : Addr} {oc24 kV24 dc24 pm24 cd24 ct24 : Value} {od24 an24 : Option Addr} {sl24 : Array (Option Value)} {f25 : Addr} {oc25 kV25 dc25 pm25 cd25 ct25 : Value} {od25 an25 : Option Addr} {sl25 : Array (Option Value)} {f26 : Addr} {oc26 kV26 dc26 pm26 cd26 ct26 : Value} {od26 an26 : Option Addr} {sl26 : Array (Option Value)} {f27 : Addr} {oc27 kV27 dc27 pm27 cd27 ct27 : Value} {od27 an27 : Option Addr} {sl27 : Array (Option Value)} {f28 : Addr} {oc28 kV28 dc28 pm28 cd28 ct28 : Value} {od28 an28 : Option Addr} {sl28 : Array (Option Value)} {f29 : Addr} {oc29 kV29 dc29 pm29 cd29 ct29 : Value} {od29 an29 : Option Addr} {sl29 : Array (Option Value)} {f30 : Addr} {oc30 kV30 dc30 pm30 cd30 ct30 : Value} {od30 an30 : Option Addr} {sl30 : Array (Option Value)} {f31 : Addr} {oc31 kV31 dc31 pm31 cd31 ct31 : Value} {od31 an31 : Option Addr} {sl31 : Array (Option Value)} {f32 : Addr} {oc32 kV32 dc32 pm32 cd32 ct32 : Value} {od32 an32 : Option Addr} {sl32 : Array (Option Value)} {f33 : Addr} {oc33 kV33 dc33 pm33 cd33 ct33 : Value} {od33 an33 : Option Addr} {sl33 : Array (Option Value)} {f34 : Addr} {oc34 kV34 dc34 pm34 cd34 ct34 : Value} {od34 an34 : Option Addr} {sl34 : Array (Option Value)} {f35 : Addr} {oc35 kV35 dc35 pm35 cd35 ct35 : Value} {od35 an35 : Option Addr} {sl35 : Array (Option Value)} {f36 : Addr} {oc36 kV36 dc36 pm36 cd36 ct36 : Value} {od36 an36 : Option Addr} {sl36 : Array (Option Value)} {f37 : Addr} {oc37 kV37 dc37 pm37 cd37 ct37 : Value} {od37 an37 : Option Addr} {sl37 : Array (Option Value)} {f38 : Addr} {oc38 kV38 dc38 pm38 cd38 ct38 : Value} {od38 an38 : Option Addr} {sl38 : Array (Option Value)} {f39 : Addr} {oc39 kV39 dc39 pm39 cd39 ct39 : Value} {od39 an39 : Option Addr} {sl39 : Array (Option Value)} {f40 : Addr} {oc40 kV40 dc40 pm40 cd40 ct40 : Value} {od40 an40 : Option Addr} {sl40 : Array (Option Value)} {f41 : Addr} {oc41 kV41 dc41 pm41 cd41 ct41 : Value} {od41 an41 : Option Addr} {sl41 : Array (Option Value)} {f42 : Addr} {oc42 kV42 dc42 pm42 cd42 ct42 : Value} {od42 an42 : Option Addr} {sl42 : Array (Option Value)}
    (a0 : PySem.W.nsIn K mainGlobals "common_numbers" = some (some (.ref f0)))
    (l0 : K.lookup f0 = some ⟨oc0, od0, .func (PySem.W.fnOf "common" "common" (defArgs (top 4)) (defBody (top 4)) (defScope (top 4)) .none kV0 dc0 pm0 an0 cd0 ct0), sl0⟩)
    (c0 : PySem.W.codeIn K cd0 "common" = true)
    (k0 : PySem.W.keepIn K (.ref f0) = true)
    (a1 : PySem.W.nsIn K mainGlobals "fraction" = some (some (.ref f1)))
    (l1 : K.lookup f1 = some ⟨oc1, od1, .func (PySem.W.fnOf "fraction" "fraction" (defArgs (top 6)) (defBody (top 6)) (defScope (top 6)) (.ref T1) kV1 dc1 pm1 an1 cd1 ct1), sl1⟩)
    (c1 : PySem.W.codeIn K cd1 "fraction" = true)
    (k1 : PySem.W.keepIn K (.ref f1) = true)
    (t1 : K.lookup T1 = some o1)
    (u1 : o1.data = .seq ([Value.int 1 tk1_0] : List Value).toArray n1)
    (a2 : PySem.W.nsIn K mainGlobals "plus" = some (some (.ref f2)))
    (l2 : K.lookup f2 = some ⟨oc2, od2, .func (PySem.W.fnOf "plus" "plus" (defArgs (top 7)) (defBody (top 7)) (defScope (top 7)) .none kV2 dc2 pm2 an2 cd2 ct2), sl2⟩)
    (c2 : PySem.W.codeIn K cd2 "plus" = true)
    (k2 : PySem.W.keepIn K (.ref f2) = true)
    (a3 : PySem.W.nsIn K mainGlobals "minus" = some (some (.ref f3)))
    (l3 : K.lookup f3 = some ⟨oc3, od3, .func (PySem.W.fnOf "minus" "minus" (defArgs (top 8)) (defBody (top 8)) (defScope (top 8)) .none kV3 dc3 pm3 an3 cd3 ct3), sl3⟩)
    (c3 : PySem.W.codeIn K cd3 "minus" = true)
    (k3 : PySem.W.keepIn K (.ref f3) = true)
    (a4 : PySem.W.nsIn K mainGlobals "times" = some (some (.ref f4)))
    (l4 : K.lookup f4 = some ⟨oc4, od4, .func (PySem.W.fnOf "times" "times" (defArgs (top 9)) (defBody (top 9)) (defScope (top 9)) .none kV4 dc4 pm4 an4 cd4 ct4), sl4⟩)
    (c4 : PySem.W.codeIn K cd4 "times" = true)
    (k4 : PySem.W.keepIn K (.ref f4) = true)
    (a5 : PySem.W.nsIn K mainGlobals "over" = some (some (.ref f5)))
    (l5 : K.lookup f5 = some ⟨oc5, od5, .func (PySem.W.fnOf "over" "over" (defArgs (top 10)) (defBody (top 10)) (defScope (top 10)) .none kV5 dc5 pm5 an5 cd5 ct5), sl5⟩)
    (c5 : PySem.W.codeIn K cd5 "over" = true)
    (k5 : PySem.W.keepIn K (.ref f5) = true)
    (a6 : PySem.W.nsIn K mainGlobals "less" = some (some (.ref f6)))
    (l6 : K.lookup f6 = some ⟨oc6, od6, .func (PySem.W.fnOf "less" "less" (defArgs (top 11)) (defBody (top 11)) (defScope (top 11)) .none kV6 dc6 pm6 an6 cd6 ct6), sl6⟩)
    (c6 : PySem.W.codeIn K cd6 "less" = true)
    (k6 : PySem.W.keepIn K (.ref f6) = true)
    (a7 : PySem.W.nsIn K mainGlobals "sign" = some (some (.ref f7)))
    (l7 : K.lookup f7 = some ⟨oc7, od7, .func (PySem.W.fnOf "sign" "sign" (defArgs (top 12)) (defBody (top 12)) (defScope (top 12)) .none kV7 dc7 pm7 an7 cd7 ct7), sl7⟩)
    (c7 : PySem.W.codeIn K cd7 "sign" = true)
    (k7 : PySem.W.keepIn K (.ref f7) = true)
    (a8 : PySem.W.nsIn K mainGlobals "turn" = some (some (.ref f8)))
    (l8 : K.lookup f8 = some ⟨oc8, od8, .func (PySem.W.fnOf "turn" "turn" (defArgs (top 14)) (defBody (top 14)) (defScope (top 14)) .none kV8 dc8 pm8 an8 cd8 ct8), sl8⟩)
    (c8 : PySem.W.codeIn K cd8 "turn" = true)
    (k8 : PySem.W.keepIn K (.ref f8) = true)
    (a9 : PySem.W.nsIn K mainGlobals "smaller" = some (some (.ref f9)))
    (l9 : K.lookup f9 = some ⟨oc9, od9, .func (PySem.W.fnOf "smaller" "smaller" (defArgs (top 15)) (defBody (top 15)) (defScope (top 15)) .none kV9 dc9 pm9 an9 cd9 ct9), sl9⟩)
    (c9 : PySem.W.codeIn K cd9 "smaller" = true)
    (k9 : PySem.W.keepIn K (.ref f9) = true)
    (a10 : PySem.W.nsIn K mainGlobals "put_in" = some (some (.ref f10)))
    (l10 : K.lookup f10 = some ⟨oc10, od10, .func (PySem.W.fnOf "put_in" "put_in" (defArgs (top 17)) (defBody (top 17)) (defScope (top 17)) .none kV10 dc10 pm10 an10 cd10 ct10), sl10⟩)
    (c10 : PySem.W.codeIn K cd10 "put_in" = true)
    (k10 : PySem.W.keepIn K (.ref f10) = true)
    (a11 : PySem.W.nsIn K mainGlobals "chain" = some (some (.ref f11)))
    (l11 : K.lookup f11 = some ⟨oc11, od11, .func (PySem.W.fnOf "chain" "chain" (defArgs (top 18)) (defBody (top 18)) (defScope (top 18)) .none kV11 dc11 pm11 an11 cd11 ct11), sl11⟩)
    (c11 : PySem.W.codeIn K cd11 "chain" = true)
    (k11 : PySem.W.keepIn K (.ref f11) = true)
    (a12 : PySem.W.nsIn K mainGlobals "hull" = some (some (.ref f12)))
    (l12 : K.lookup f12 = some ⟨oc12, od12, .func (PySem.W.fnOf "hull" "hull" (defArgs (top 19)) (defBody (top 19)) (defScope (top 19)) .none kV12 dc12 pm12 an12 cd12 ct12), sl12⟩)
    (c12 : PySem.W.codeIn K cd12 "hull" = true)
    (k12 : PySem.W.keepIn K (.ref f12) = true)
    (a13 : PySem.W.nsIn K mainGlobals "size_of" = some (some (.ref f13)))
    (l13 : K.lookup f13 = some ⟨oc13, od13, .func (PySem.W.fnOf "size_of" "size_of" (defArgs (top 20)) (defBody (top 20)) (defScope (top 20)) .none kV13 dc13 pm13 an13 cd13 ct13), sl13⟩)
    (c13 : PySem.W.codeIn K cd13 "size_of" = true)
    (k13 : PySem.W.keepIn K (.ref f13) = true)
    (a14 : PySem.W.nsIn K mainGlobals "crossing" = some (some (.ref f14)))
    (l14 : K.lookup f14 = some ⟨oc14, od14, .func (PySem.W.fnOf "crossing" "crossing" (defArgs (top 21)) (defBody (top 21)) (defScope (top 21)) .none kV14 dc14 pm14 an14 cd14 ct14), sl14⟩)
    (c14 : PySem.W.codeIn K cd14 "crossing" = true)
    (k14 : PySem.W.keepIn K (.ref f14) = true)
    (a15 : PySem.W.nsIn K mainGlobals "left_of" = some (some (.ref f15)))
    (l15 : K.lookup f15 = some ⟨oc15, od15, .func (PySem.W.fnOf "left_of" "left_of" (defArgs (top 22)) (defBody (top 22)) (defScope (top 22)) .none kV15 dc15 pm15 an15 cd15 ct15), sl15⟩)
    (c15 : PySem.W.codeIn K cd15 "left_of" = true)
    (k15 : PySem.W.keepIn K (.ref f15) = true)
    (a16 : PySem.W.nsIn K mainGlobals "sides_of" = some (some (.ref f16)))
    (l16 : K.lookup f16 = some ⟨oc16, od16, .func (PySem.W.fnOf "sides_of" "sides_of" (defArgs (top 23)) (defBody (top 23)) (defScope (top 23)) .none kV16 dc16 pm16 an16 cd16 ct16), sl16⟩)
    (c16 : PySem.W.codeIn K cd16 "sides_of" = true)
    (k16 : PySem.W.keepIn K (.ref f16) = true)
    (a17 : PySem.W.nsIn K mainGlobals "common_polygons" = some (some (.ref f17)))
    (l17 : K.lookup f17 = some ⟨oc17, od17, .func (PySem.W.fnOf "common" "common" (defArgs (top 24)) (defBody (top 24)) (defScope (top 24)) .none kV17 dc17 pm17 an17 cd17 ct17), sl17⟩)
    (c17 : PySem.W.codeIn K cd17 "common" = true)
    (k17 : PySem.W.keepIn K (.ref f17) = true)
    (a18 : PySem.W.nsIn K mainGlobals "cut_out" = some (some (.ref f18)))
    (l18 : K.lookup f18 = some ⟨oc18, od18, .func (PySem.W.fnOf "cut_out" "cut_out" (defArgs (top 26)) (defBody (top 26)) (defScope (top 26)) .none kV18 dc18 pm18 an18 cd18 ct18), sl18⟩)
    (c18 : PySem.W.codeIn K cd18 "cut_out" = true)
    (k18 : PySem.W.keepIn K (.ref f18) = true)
    (a19 : PySem.W.nsIn K mainGlobals "without" = some (some (.ref f19)))
    (l19 : K.lookup f19 = some ⟨oc19, od19, .func (PySem.W.fnOf "without" "without" (defArgs (top 27)) (defBody (top 27)) (defScope (top 27)) .none kV19 dc19 pm19 an19 cd19 ct19), sl19⟩)
    (c19 : PySem.W.codeIn K cd19 "without" = true)
    (k19 : PySem.W.keepIn K (.ref f19) = true)
    (a20 : PySem.W.nsIn K mainGlobals "_law_cell" = some (some (.ref f20)))
    (l20 : K.lookup f20 = some ⟨oc20, od20, .func (PySem.W.fnOf "_law_cell" "_law_cell" (defArgs (top 29)) (defBody (top 29)) (defScope (top 29)) .none kV20 dc20 pm20 an20 cd20 ct20), sl20⟩)
    (c20 : PySem.W.codeIn K cd20 "_law_cell" = true)
    (k20 : PySem.W.keepIn K (.ref f20) = true)
    (a21 : PySem.W.nsIn K mainGlobals "_law_row" = some (some (.ref f21)))
    (l21 : K.lookup f21 = some ⟨oc21, od21, .func (PySem.W.fnOf "_law_row" "_law_row" (defArgs (top 30)) (defBody (top 30)) (defScope (top 30)) .none kV21 dc21 pm21 an21 cd21 ct21), sl21⟩)
    (c21 : PySem.W.codeIn K cd21 "_law_row" = true)
    (k21 : PySem.W.keepIn K (.ref f21) = true)
    (a22 : PySem.W.nsIn K mainGlobals "_law_fraction" = some (some (.ref f22)))
    (l22 : K.lookup f22 = some ⟨oc22, od22, .func (PySem.W.fnOf "_law_fraction" "_law_fraction" (defArgs (top 31)) (defBody (top 31)) (defScope (top 31)) .none kV22 dc22 pm22 an22 cd22 ct22), sl22⟩)
    (c22 : PySem.W.codeIn K cd22 "_law_fraction" = true)
    (k22 : PySem.W.keepIn K (.ref f22) = true)
    (a23 : PySem.W.nsIn K mainGlobals "_law_plus" = some (some (.ref f23)))
    (l23 : K.lookup f23 = some ⟨oc23, od23, .func (PySem.W.fnOf "_law_plus" "_law_plus" (defArgs (top 32)) (defBody (top 32)) (defScope (top 32)) .none kV23 dc23 pm23 an23 cd23 ct23), sl23⟩)
    (c23 : PySem.W.codeIn K cd23 "_law_plus" = true)
    (k23 : PySem.W.keepIn K (.ref f23) = true)
    (a24 : PySem.W.nsIn K mainGlobals "_law_minus" = some (some (.ref f24)))
    (l24 : K.lookup f24 = some ⟨oc24, od24, .func (PySem.W.fnOf "_law_minus" "_law_minus" (defArgs (top 33)) (defBody (top 33)) (defScope (top 33)) .none kV24 dc24 pm24 an24 cd24 ct24), sl24⟩)
    (c24 : PySem.W.codeIn K cd24 "_law_minus" = true)
    (k24 : PySem.W.keepIn K (.ref f24) = true)
    (a25 : PySem.W.nsIn K mainGlobals "_law_times" = some (some (.ref f25)))
    (l25 : K.lookup f25 = some ⟨oc25, od25, .func (PySem.W.fnOf "_law_times" "_law_times" (defArgs (top 34)) (defBody (top 34)) (defScope (top 34)) .none kV25 dc25 pm25 an25 cd25 ct25), sl25⟩)
    (c25 : PySem.W.codeIn K cd25 "_law_times" = true)
    (k25 : PySem.W.keepIn K (.ref f25) = true)
    (a26 : PySem.W.nsIn K mainGlobals "_law_over" = some (some (.ref f26)))
    (l26 : K.lookup f26 = some ⟨oc26, od26, .func (PySem.W.fnOf "_law_over" "_law_over" (defArgs (top 35)) (defBody (top 35)) (defScope (top 35)) .none kV26 dc26 pm26 an26 cd26 ct26), sl26⟩)
    (c26 : PySem.W.codeIn K cd26 "_law_over" = true)
    (k26 : PySem.W.keepIn K (.ref f26) = true)
    (a27 : PySem.W.nsIn K mainGlobals "_law_less" = some (some (.ref f27)))
    (l27 : K.lookup f27 = some ⟨oc27, od27, .func (PySem.W.fnOf "_law_less" "_law_less" (defArgs (top 36)) (defBody (top 36)) (defScope (top 36)) .none kV27 dc27 pm27 an27 cd27 ct27), sl27⟩)
    (c27 : PySem.W.codeIn K cd27 "_law_less" = true)
    (k27 : PySem.W.keepIn K (.ref f27) = true)
    (a28 : PySem.W.nsIn K mainGlobals "_law_middle" = some (some (.ref f28)))
    (l28 : K.lookup f28 = some ⟨oc28, od28, .func (PySem.W.fnOf "_law_middle" "_law_middle" (defArgs (top 37)) (defBody (top 37)) (defScope (top 37)) .none kV28 dc28 pm28 an28 cd28 ct28), sl28⟩)
    (c28 : PySem.W.codeIn K cd28 "_law_middle" = true)
    (k28 : PySem.W.keepIn K (.ref f28) = true)
    (a29 : PySem.W.nsIn K mainGlobals "_law_turn" = some (some (.ref f29)))
    (l29 : K.lookup f29 = some ⟨oc29, od29, .func (PySem.W.fnOf "_law_turn" "_law_turn" (defArgs (top 38)) (defBody (top 38)) (defScope (top 38)) .none kV29 dc29 pm29 an29 cd29 ct29), sl29⟩)
    (c29 : PySem.W.codeIn K cd29 "_law_turn" = true)
    (k29 : PySem.W.keepIn K (.ref f29) = true)
    (a30 : PySem.W.nsIn K mainGlobals "_law_is_side" = some (some (.ref f30)))
    (l30 : K.lookup f30 = some ⟨oc30, od30, .func (PySem.W.fnOf "_law_is_side" "_law_is_side" (defArgs (top 39)) (defBody (top 39)) (defScope (top 39)) .none kV30 dc30 pm30 an30 cd30 ct30), sl30⟩)
    (c30 : PySem.W.codeIn K cd30 "_law_is_side" = true)
    (k30 : PySem.W.keepIn K (.ref f30) = true)
    (a31 : PySem.W.nsIn K mainGlobals "_law_hull" = some (some (.ref f31)))
    (l31 : K.lookup f31 = some ⟨oc31, od31, .func (PySem.W.fnOf "_law_hull" "_law_hull" (defArgs (top 40)) (defBody (top 40)) (defScope (top 40)) .none kV31 dc31 pm31 an31 cd31 ct31), sl31⟩)
    (c31 : PySem.W.codeIn K cd31 "_law_hull" = true)
    (k31 : PySem.W.keepIn K (.ref f31) = true)
    (a32 : PySem.W.nsIn K mainGlobals "_law_other" = some (some (.ref f32)))
    (l32 : K.lookup f32 = some ⟨oc32, od32, .func (PySem.W.fnOf "_law_other" "_law_other" (defArgs (top 41)) (defBody (top 41)) (defScope (top 41)) .none kV32 dc32 pm32 an32 cd32 ct32), sl32⟩)
    (c32 : PySem.W.codeIn K cd32 "_law_other" = true)
    (k32 : PySem.W.keepIn K (.ref f32) = true)
    (a33 : PySem.W.nsIn K mainGlobals "_law_least" = some (some (.ref f33)))
    (l33 : K.lookup f33 = some ⟨oc33, od33, .func (PySem.W.fnOf "_law_least" "_law_least" (defArgs (top 42)) (defBody (top 42)) (defScope (top 42)) .none kV33 dc33 pm33 an33 cd33 ct33), sl33⟩)
    (c33 : PySem.W.codeIn K cd33 "_law_least" = true)
    (k33 : PySem.W.keepIn K (.ref f33) = true)
    (a34 : PySem.W.nsIn K mainGlobals "_law_twice" = some (some (.ref f34)))
    (l34 : K.lookup f34 = some ⟨oc34, od34, .func (PySem.W.fnOf "_law_twice" "_law_twice" (defArgs (top 43)) (defBody (top 43)) (defScope (top 43)) .none kV34 dc34 pm34 an34 cd34 ct34), sl34⟩)
    (c34 : PySem.W.codeIn K cd34 "_law_twice" = true)
    (k34 : PySem.W.keepIn K (.ref f34) = true)
    (a35 : PySem.W.nsIn K mainGlobals "_law_clip" = some (some (.ref f35)))
    (l35 : K.lookup f35 = some ⟨oc35, od35, .func (PySem.W.fnOf "_law_clip" "_law_clip" (defArgs (top 44)) (defBody (top 44)) (defScope (top 44)) .none kV35 dc35 pm35 an35 cd35 ct35), sl35⟩)
    (c35 : PySem.W.codeIn K cd35 "_law_clip" = true)
    (k35 : PySem.W.keepIn K (.ref f35) = true)
    (a36 : PySem.W.nsIn K mainGlobals "_law_shared" = some (some (.ref f36)))
    (l36 : K.lookup f36 = some ⟨oc36, od36, .func (PySem.W.fnOf "_law_shared" "_law_shared" (defArgs (top 45)) (defBody (top 45)) (defScope (top 45)) .none kV36 dc36 pm36 an36 cd36 ct36), sl36⟩)
    (c36 : PySem.W.codeIn K cd36 "_law_shared" = true)
    (k36 : PySem.W.keepIn K (.ref f36) = true)
    (a37 : PySem.W.nsIn K mainGlobals "_law_points" = some (some (.ref f37)))
    (l37 : K.lookup f37 = some ⟨oc37, od37, .func (PySem.W.fnOf "_law_points" "_law_points" (defArgs (top 46)) (defBody (top 46)) (defScope (top 46)) .none kV37 dc37 pm37 an37 cd37 ct37), sl37⟩)
    (c37 : PySem.W.codeIn K cd37 "_law_points" = true)
    (k37 : PySem.W.keepIn K (.ref f37) = true)
    (a38 : PySem.W.nsIn K mainGlobals "_law_shoelace" = some (some (.ref f38)))
    (l38 : K.lookup f38 = some ⟨oc38, od38, .func (PySem.W.fnOf "_law_shoelace" "_law_shoelace" (defArgs (top 47)) (defBody (top 47)) (defScope (top 47)) .none kV38 dc38 pm38 an38 cd38 ct38), sl38⟩)
    (c38 : PySem.W.codeIn K cd38 "_law_shoelace" = true)
    (k38 : PySem.W.keepIn K (.ref f38) = true)
    (a39 : PySem.W.nsIn K mainGlobals "_law_right_hull" = some (some (.ref f39)))
    (l39 : K.lookup f39 = some ⟨oc39, od39, .func (PySem.W.fnOf "_law_right_hull" "_law_right_hull" (defArgs (top 48)) (defBody (top 48)) (defScope (top 48)) .none kV39 dc39 pm39 an39 cd39 ct39), sl39⟩)
    (c39 : PySem.W.codeIn K cd39 "_law_right_hull" = true)
    (k39 : PySem.W.keepIn K (.ref f39) = true)
    (a40 : PySem.W.nsIn K mainGlobals "_law_drawn" = some (some (.ref f40)))
    (l40 : K.lookup f40 = some ⟨oc40, od40, .func (PySem.W.fnOf "_law_drawn" "_law_drawn" (defArgs (top 49)) (defBody (top 49)) (defScope (top 49)) .none kV40 dc40 pm40 an40 cd40 ct40), sl40⟩)
    (c40 : PySem.W.codeIn K cd40 "_law_drawn" = true)
    (k40 : PySem.W.keepIn K (.ref f40) = true)
    (a41 : PySem.W.nsIn K mainGlobals "_law_is_left" = some (some (.ref f41)))
    (l41 : K.lookup f41 = some ⟨oc41, od41, .func (PySem.W.fnOf "_law_is_left" "_law_is_left" (defArgs (top 50)) (defBody (top 50)) (defScope (top 50)) .none kV41 dc41 pm41 an41 cd41 ct41), sl41⟩)
    (c41 : PySem.W.codeIn K cd41 "_law_is_left" = true)
    (k41 : PySem.W.keepIn K (.ref f41) = true)
    (a42 : PySem.W.nsIn K mainGlobals "law" = some (some (.ref f42)))
    (l42 : K.lookup f42 = some ⟨oc42, od42, .func (PySem.W.fnOf "law" "law" (defArgs (top 51)) (defBody (top 51)) (defScope (top 51)) .none kV42 dc42 pm42 an42 cd42 ct42), sl42⟩)
    (c42 : PySem.W.codeIn K cd42 "law" = true)
    (k42 : PySem.W.keepIn K (.ref f42) = true)
    (b_abs : PySem.W.nsIn K mainGlobals "abs" = some none)
    (b_all : PySem.W.nsIn K mainGlobals "all" = some none)
    (b_any : PySem.W.nsIn K mainGlobals "any" = some none)
    (b_bool : PySem.W.nsIn K mainGlobals "bool" = some none)
    (b_int : PySem.W.nsIn K mainGlobals "int" = some none)
    (b_isinstance : PySem.W.nsIn K mainGlobals "isinstance" = some none)
    (b_len : PySem.W.nsIn K mainGlobals "len" = some none)
    (b_list : PySem.W.nsIn K mainGlobals "list" = some none)
    (b_range : PySem.W.nsIn K mainGlobals "range" = some none)
    (b_str : PySem.W.nsIn K mainGlobals "str" = some none)
    (b_tuple : PySem.W.nsIn K mainGlobals "tuple" = some none) :
    ∃ fd, DefOk K mg "law" d_law f42 fd ∧ PgOk K mg prog ∧ (∀ (s : Shared) (v : Value), BindsTo s fd ⟨[v], []⟩ [("script", v)]) := by
  have D0 : DefOk K mg "common_numbers" d_common_numbers f0 _ := ⟨PySem.W.mg_of X G a0, k0, ⟨_, _, _, _, _, _, _, _, _, _, _, _, _, rfl, l0, c0⟩, sc_common_numbers, 
    fun q hq => (by
      simp only [d_common_numbers, List.mem_cons, List.not_mem_nil, or_false] at hq
      subst hq
      (exact ⟨[], [], .all fun us hl => match us, hl with | [_, _], _ => rfl, .nil, fun F => .nil, rfl⟩)), 
    fun q hq => (by cases hq)⟩
  have F1 : FunD K "fraction" "fraction" (defArgs (top 6)) (defBody (top 6)) (defScope (top 6)) [V.int 1] [] f1 _ := ⟨⟨_, _, _, _, _, _, _, _, _, _, rfl, l1, c1, .inr ⟨by simp, T1, o1, [Value.int 1 tk1_0], n1, rfl, t1, u1, .cons ⟨_, rfl⟩ (.nil)⟩, .inl rfl⟩, k1⟩
  have D1 : DefOk K mg "fraction" d_fraction f1 _ := ⟨PySem.W.mg_of X G a1, k1, ⟨_, _, _, _, _, _, _, _, _, _, _, _, _, rfl, l1, c1⟩, sc_fraction, 
    fun q hq => (by
      simp only [d_fraction, List.mem_cons, List.not_mem_nil, or_false] at hq
      subst hq
      (obtain ⟨ds, hv, hb⟩ := F1.binds1 (ps := d_fraction.ps) 2 1 (by simp) rfl (fun T kV doc pm an cdv ct us its h1 h2 => match us, its, h1, h2 with | [_, _], [_], _, _ => ⟨_, rfl, rfl⟩); exact ⟨_, ds, hb, hv, fun F => .nil, rfl⟩)), 
    fun q hq => (by cases hq)⟩
  have D2 : DefOk K mg "plus" d_plus f2 _ := ⟨PySem.W.mg_of X G a2, k2, ⟨_, _, _, _, _, _, _, _, _, _, _, _, _, rfl, l2, c2⟩, sc_plus, 
    fun q hq => (by
      simp only [d_plus, List.mem_cons, List.not_mem_nil, or_false] at hq
      subst hq
      (exact ⟨[], [], .all fun us hl => match us, hl with | [_, _], _ => rfl, .nil, fun F => .nil, rfl⟩)), 
    fun q hq => (by cases hq)⟩
  have D3 : DefOk K mg "minus" d_minus f3 _ := ⟨PySem.W.mg_of X G a3, k3, ⟨_, _, _, _, _, _, _, _, _, _, _, _, _, rfl, l3, c3⟩, sc_minus, 
    fun q hq => (by
      simp only [d_minus, List.mem_cons, List.not_mem_nil, or_false] at hq
      subst hq
      (exact ⟨[], [], .all fun us hl => match us, hl with | [_, _], _ => rfl, .nil, fun F => .nil, rfl⟩)), 
    fun q hq => (by cases hq)⟩
  have D4 : DefOk K mg "times" d_times f4 _ := ⟨PySem.W.mg_of X G a4, k4, ⟨_, _, _, _, _, _, _, _, _, _, _, _, _, rfl, l4, c4⟩, sc_times, 
    fun q hq => (by
      simp only [d_times, List.mem_cons, List.not_mem_nil, or_false] at hq
      subst hq
      (exact ⟨[], [], .all fun us hl => match us, hl with | [_, _], _ => rfl, .nil, fun F => .nil, rfl⟩)), 
    fun q hq => (by cases hq)⟩
  have D5 : DefOk K mg "over" d_over f5 _ := ⟨PySem.W.mg_of X G a5, k5, ⟨_, _, _, _, _, _, _, _, _, _, _, _, _, rfl, l5, c5⟩, sc_over, 
    fun q hq => (by
      simp only [d_over, List.mem_cons, List.not_mem_nil, or_false] at hq
      subst hq
      (exact ⟨[], [], .all fun us hl => match us, hl with | [_, _], _ => rfl, .nil, fun F => .nil, rfl⟩)), 
    fun q hq => (by cases hq)⟩
  have D6 : DefOk K mg "less" d_less f6 _ := ⟨PySem.W.mg_of X G a6, k6, ⟨_, _, _, _, _, _, _, _, _, _, _, _, _, rfl, l6, c6⟩, sc_less, 
    fun q hq => (by
      simp only [d_less, List.mem_cons, List.not_mem_nil, or_false] at hq
      subst hq
      (exact ⟨[], [], .all fun us hl => match us, hl with | [_, _], _ => rfl, .nil, fun F => .nil, rfl⟩)), 
    fun q hq => (by cases hq)⟩
  have D7 : DefOk K mg "sign" d_sign f7 _ := ⟨PySem.W.mg_of X G a7, k7, ⟨_, _, _, _, _, _, _, _, _, _, _, _, _, rfl, l7, c7⟩, sc_sign, 
    fun q hq => (by
      simp only [d_sign, List.mem_cons, List.not_mem_nil, or_false] at hq
      subst hq
      (exact ⟨[], [], .all fun us hl => match us, hl with | [_], _ => rfl, .nil, fun F => .nil, rfl⟩)), 
    fun q hq => (by cases hq)⟩
  have D8 : DefOk K mg "turn" d_turn f8 _ := ⟨PySem.W.mg_of X G a8, k8, ⟨_, _, _, _, _, _, _, _, _, _, _, _, _, rfl, l8, c8⟩, sc_turn, 
    fun q hq => (by
      simp only [d_turn, List.mem_cons, List.not_mem_nil, or_false] at hq
      subst hq
      (exact ⟨[], [], .all fun us hl => match us, hl with | [_, _, _], _ => rfl, .nil, fun F => .nil, rfl⟩)), 
    fun q hq => (by cases hq)⟩
  have D9 : DefOk K mg "smaller" d_smaller f9 _ := ⟨PySem.W.mg_of X G a9, k9, ⟨_, _, _, _, _, _, _, _, _, _, _, _, _, rfl, l9, c9⟩, sc_smaller, 
    fun q hq => (by
      simp only [d_smaller, List.mem_cons, List.not_mem_nil, or_false] at hq
      subst hq
      (exact ⟨[], [], .all fun us hl => match us, hl with | [_, _], _ => rfl, .nil, fun F => .nil, rfl⟩)), 
    fun q hq => (by cases hq)⟩
  have D10 : DefOk K mg "put_in" d_put_in f10 _ := ⟨PySem.W.mg_of X G a10, k10, ⟨_, _, _, _, _, _, _, _, _, _, _, _, _, rfl, l10, c10⟩, sc_put_in, 
    fun q hq => (by
      simp only [d_put_in, List.mem_cons, List.not_mem_nil, or_false] at hq
      subst hq
      (exact ⟨[], [], .all fun us hl => match us, hl with | [_, _], _ => rfl, .nil, fun F => .nil, rfl⟩)), 
    fun q hq => (by cases hq)⟩
  have D11 : DefOk K mg "chain" d_chain f11 _ := ⟨PySem.W.mg_of X G a11, k11, ⟨_, _, _, _, _, _, _, _, _, _, _, _, _, rfl, l11, c11⟩, sc_chain, 
    fun q hq => (by
      simp only [d_chain, List.mem_cons, List.not_mem_nil, or_false] at hq
      subst hq
      (exact ⟨[], [], .all fun us hl => match us, hl with | [_], _ => rfl, .nil, fun F => .nil, rfl⟩)), 
    fun q hq => (by cases hq)⟩
  have D12 : DefOk K mg "hull" d_hull f12 _ := ⟨PySem.W.mg_of X G a12, k12, ⟨_, _, _, _, _, _, _, _, _, _, _, _, _, rfl, l12, c12⟩, sc_hull, 
    fun q hq => (by
      simp only [d_hull, List.mem_cons, List.not_mem_nil, or_false] at hq
      subst hq
      (exact ⟨[], [], .all fun us hl => match us, hl with | [_], _ => rfl, .nil, fun F => .nil, rfl⟩)), 
    fun q hq => (by cases hq)⟩
  have D13 : DefOk K mg "size_of" d_size_of f13 _ := ⟨PySem.W.mg_of X G a13, k13, ⟨_, _, _, _, _, _, _, _, _, _, _, _, _, rfl, l13, c13⟩, sc_size_of, 
    fun q hq => (by
      simp only [d_size_of, List.mem_cons, List.not_mem_nil, or_false] at hq
      subst hq
      (exact ⟨[], [], .all fun us hl => match us, hl with | [_], _ => rfl, .nil, fun F => .nil, rfl⟩)), 
    fun q hq => (by cases hq)⟩
  have D14 : DefOk K mg "crossing" d_crossing f14 _ := ⟨PySem.W.mg_of X G a14, k14, ⟨_, _, _, _, _, _, _, _, _, _, _, _, _, rfl, l14, c14⟩, sc_crossing, 
    fun q hq => (by
      simp only [d_crossing, List.mem_cons, List.not_mem_nil, or_false] at hq
      subst hq
      (exact ⟨[], [], .all fun us hl => match us, hl with | [_, _, _, _], _ => rfl, .nil, fun F => .nil, rfl⟩)), 
    fun q hq => (by cases hq)⟩
  have D15 : DefOk K mg "left_of" d_left_of f15 _ := ⟨PySem.W.mg_of X G a15, k15, ⟨_, _, _, _, _, _, _, _, _, _, _, _, _, rfl, l15, c15⟩, sc_left_of, 
    fun q hq => (by
      simp only [d_left_of, List.mem_cons, List.not_mem_nil, or_false] at hq
      subst hq
      (exact ⟨[], [], .all fun us hl => match us, hl with | [_, _, _], _ => rfl, .nil, fun F => .nil, rfl⟩)), 
    fun q hq => (by cases hq)⟩
  have D16 : DefOk K mg "sides_of" d_sides_of f16 _ := ⟨PySem.W.mg_of X G a16, k16, ⟨_, _, _, _, _, _, _, _, _, _, _, _, _, rfl, l16, c16⟩, sc_sides_of, 
    fun q hq => (by
      simp only [d_sides_of, List.mem_cons, List.not_mem_nil, or_false] at hq
      subst hq
      (exact ⟨[], [], .all fun us hl => match us, hl with | [_], _ => rfl, .nil, fun F => .nil, rfl⟩)), 
    fun q hq => (by cases hq)⟩
  have D17 : DefOk K mg "common_polygons" d_common_polygons f17 _ := ⟨PySem.W.mg_of X G a17, k17, ⟨_, _, _, _, _, _, _, _, _, _, _, _, _, rfl, l17, c17⟩, sc_common_polygons, 
    fun q hq => (by
      simp only [d_common_polygons, List.mem_cons, List.not_mem_nil, or_false] at hq
      subst hq
      (exact ⟨[], [], .all fun us hl => match us, hl with | [_, _], _ => rfl, .nil, fun F => .nil, rfl⟩)), 
    fun q hq => (by cases hq)⟩
  have D18 : DefOk K mg "cut_out" d_cut_out f18 _ := ⟨PySem.W.mg_of X G a18, k18, ⟨_, _, _, _, _, _, _, _, _, _, _, _, _, rfl, l18, c18⟩, sc_cut_out, 
    fun q hq => (by
      simp only [d_cut_out, List.mem_cons, List.not_mem_nil, or_false] at hq
      subst hq
      (exact ⟨[], [], .all fun us hl => match us, hl with | [_, _], _ => rfl, .nil, fun F => .nil, rfl⟩)), 
    fun q hq => (by cases hq)⟩
  have D19 : DefOk K mg "without" d_without f19 _ := ⟨PySem.W.mg_of X G a19, k19, ⟨_, _, _, _, _, _, _, _, _, _, _, _, _, rfl, l19, c19⟩, sc_without, 
    fun q hq => (by
      simp only [d_without, List.mem_cons, List.not_mem_nil, or_false] at hq
      subst hq
      (exact ⟨[], [], .all fun us hl => match us, hl with | [_, _], _ => rfl, .nil, fun F => .nil, rfl⟩)), 
    fun q hq => (by cases hq)⟩
  have D20 : DefOk K mg "_law_cell" d__law_cell f20 _ := ⟨PySem.W.mg_of X G a20, k20, ⟨_, _, _, _, _, _, _, _, _, _, _, _, _, rfl, l20, c20⟩, sc__law_cell, 
    fun q hq => (by
      simp only [d__law_cell, List.mem_cons, List.not_mem_nil, or_false] at hq
      subst hq
      (exact ⟨[], [], .all fun us hl => match us, hl with | [_, _], _ => rfl, .nil, fun F => .nil, rfl⟩)), 
    fun q hq => (by cases hq)⟩
  have D21 : DefOk K mg "_law_row" d__law_row f21 _ := ⟨PySem.W.mg_of X G a21, k21, ⟨_, _, _, _, _, _, _, _, _, _, _, _, _, rfl, l21, c21⟩, sc__law_row, 
    fun q hq => (by
      simp only [d__law_row, List.mem_cons, List.not_mem_nil, or_false] at hq
      subst hq
      (exact ⟨[], [], .all fun us hl => match us, hl with | [_, _, _], _ => rfl, .nil, fun F => .nil, rfl⟩)), 
    fun q hq => (by cases hq)⟩
  have D22 : DefOk K mg "_law_fraction" d__law_fraction f22 _ := ⟨PySem.W.mg_of X G a22, k22, ⟨_, _, _, _, _, _, _, _, _, _, _, _, _, rfl, l22, c22⟩, sc__law_fraction, 
    fun q hq => (by
      simp only [d__law_fraction, List.mem_cons, List.not_mem_nil, or_false] at hq
      subst hq
      (exact ⟨[], [], .all fun us hl => match us, hl with | [_, _], _ => rfl, .nil, fun F => .nil, rfl⟩)), 
    fun q hq => (by cases hq)⟩
  have D23 : DefOk K mg "_law_plus" d__law_plus f23 _ := ⟨PySem.W.mg_of X G a23, k23, ⟨_, _, _, _, _, _, _, _, _, _, _, _, _, rfl, l23, c23⟩, sc__law_plus, 
    fun q hq => (by
      simp only [d__law_plus, List.mem_cons, List.not_mem_nil, or_false] at hq
      subst hq
      (exact ⟨[], [], .all fun us hl => match us, hl with | [_, _], _ => rfl, .nil, fun F => .nil, rfl⟩)), 
    fun q hq => (by cases hq)⟩
  have D24 : DefOk K mg "_law_minus" d__law_minus f24 _ := ⟨PySem.W.mg_of X G a24, k24, ⟨_, _, _, _, _, _, _, _, _, _, _, _, _, rfl, l24, c24⟩, sc__law_minus, 
    fun q hq => (by
      simp only [d__law_minus, List.mem_cons, List.not_mem_nil, or_false] at hq
      subst hq
      (exact ⟨[], [], .all fun us hl => match us, hl with | [_, _], _ => rfl, .nil, fun F => .nil, rfl⟩)), 
    fun q hq => (by cases hq)⟩
  have D25 : DefOk K mg "_law_times" d__law_times f25 _ := ⟨PySem.W.mg_of X G a25, k25, ⟨_, _, _, _, _, _, _, _, _, _, _, _, _, rfl, l25, c25⟩, sc__law_times, 
    fun q hq => (by
      simp only [d__law_times, List.mem_cons, List.not_mem_nil, or_false] at hq
      subst hq
      (exact ⟨[], [], .all fun us hl => match us, hl with | [_, _], _ => rfl, .nil, fun F => .nil, rfl⟩)), 
    fun q hq => (by cases hq)⟩
  have D26 : DefOk K mg "_law_over" d__law_over f26 _ := ⟨PySem.W.mg_of X G a26, k26, ⟨_, _, _, _, _, _, _, _, _, _, _, _, _, rfl, l26, c26⟩, sc__law_over, 
    fun q hq => (by
      simp only [d__law_over, List.mem_cons, List.not_mem_nil, or_false] at hq
      subst hq
      (exact ⟨[], [], .all fun us hl => match us, hl with | [_, _], _ => rfl, .nil, fun F => .nil, rfl⟩)), 
    fun q hq => (by cases hq)⟩
  have D27 : DefOk K mg "_law_less" d__law_less f27 _ := ⟨PySem.W.mg_of X G a27, k27, ⟨_, _, _, _, _, _, _, _, _, _, _, _, _, rfl, l27, c27⟩, sc__law_less, 
    fun q hq => (by
      simp only [d__law_less, List.mem_cons, List.not_mem_nil, or_false] at hq
      subst hq
      (exact ⟨[], [], .all fun us hl => match us, hl with | [_, _], _ => rfl, .nil, fun F => .nil, rfl⟩)), 
    fun q hq => (by cases hq)⟩
  have D28 : DefOk K mg "_law_middle" d__law_middle f28 _ := ⟨PySem.W.mg_of X G a28, k28, ⟨_, _, _, _, _, _, _, _, _, _, _, _, _, rfl, l28, c28⟩, sc__law_middle, 
    fun q hq => (by
      simp only [d__law_middle, List.mem_cons, List.not_mem_nil, or_false] at hq
      subst hq
      (exact ⟨[], [], .all fun us hl => match us, hl with | [_, _], _ => rfl, .nil, fun F => .nil, rfl⟩)), 
    fun q hq => (by cases hq)⟩
  have D29 : DefOk K mg "_law_turn" d__law_turn f29 _ := ⟨PySem.W.mg_of X G a29, k29, ⟨_, _, _, _, _, _, _, _, _, _, _, _, _, rfl, l29, c29⟩, sc__law_turn, 
    fun q hq => (by
      simp only [d__law_turn, List.mem_cons, List.not_mem_nil, or_false] at hq
      subst hq
      (exact ⟨[], [], .all fun us hl => match us, hl with | [_, _, _], _ => rfl, .nil, fun F => .nil, rfl⟩)), 
    fun q hq => (by cases hq)⟩
  have D30 : DefOk K mg "_law_is_side" d__law_is_side f30 _ := ⟨PySem.W.mg_of X G a30, k30, ⟨_, _, _, _, _, _, _, _, _, _, _, _, _, rfl, l30, c30⟩, sc__law_is_side, 
    fun q hq => (by
      simp only [d__law_is_side, List.mem_cons, List.not_mem_nil, or_false] at hq
      subst hq
      (exact ⟨[], [], .all fun us hl => match us, hl with | [_, _, _], _ => rfl, .nil, fun F => .nil, rfl⟩)), 
    fun q hq => (by cases hq)⟩
  have D31 : DefOk K mg "_law_hull" d__law_hull f31 _ := ⟨PySem.W.mg_of X G a31, k31, ⟨_, _, _, _, _, _, _, _, _, _, _, _, _, rfl, l31, c31⟩, sc__law_hull, 
    fun q hq => (by
      simp only [d__law_hull, List.mem_cons, List.not_mem_nil, or_false] at hq
      subst hq
      (exact ⟨[], [], .all fun us hl => match us, hl with | [_], _ => rfl, .nil, fun F => .nil, rfl⟩)), 
    fun q hq => (by cases hq)⟩
  have D32 : DefOk K mg "_law_other" d__law_other f32 _ := ⟨PySem.W.mg_of X G a32, k32, ⟨_, _, _, _, _, _, _, _, _, _, _, _, _, rfl, l32, c32⟩, sc__law_other, 
    fun q hq => (by
      simp only [d__law_other, List.mem_cons, List.not_mem_nil, or_false] at hq
      subst hq
      (exact ⟨[], [], .all fun us hl => match us, hl with | [_], _ => rfl, .nil, fun F => .nil, rfl⟩)), 
    fun q hq => (by cases hq)⟩
  have D33 : DefOk K mg "_law_least" d__law_least f33 _ := ⟨PySem.W.mg_of X G a33, k33, ⟨_, _, _, _, _, _, _, _, _, _, _, _, _, rfl, l33, c33⟩, sc__law_least, 
    fun q hq => (by
      simp only [d__law_least, List.mem_cons, List.not_mem_nil, or_false] at hq
      subst hq
      (exact ⟨[], [], .all fun us hl => match us, hl with | [_], _ => rfl, .nil, fun F => .nil, rfl⟩)), 
    fun q hq => (by cases hq)⟩
  have D34 : DefOk K mg "_law_twice" d__law_twice f34 _ := ⟨PySem.W.mg_of X G a34, k34, ⟨_, _, _, _, _, _, _, _, _, _, _, _, _, rfl, l34, c34⟩, sc__law_twice, 
    fun q hq => (by
      simp only [d__law_twice, List.mem_cons, List.not_mem_nil, or_false] at hq
      subst hq
      (exact ⟨[], [], .all fun us hl => match us, hl with | [_], _ => rfl, .nil, fun F => .nil, rfl⟩)), 
    fun q hq => (by cases hq)⟩
  have D35 : DefOk K mg "_law_clip" d__law_clip f35 _ := ⟨PySem.W.mg_of X G a35, k35, ⟨_, _, _, _, _, _, _, _, _, _, _, _, _, rfl, l35, c35⟩, sc__law_clip, 
    fun q hq => (by
      simp only [d__law_clip, List.mem_cons, List.not_mem_nil, or_false] at hq
      subst hq
      (exact ⟨[], [], .all fun us hl => match us, hl with | [_, _, _], _ => rfl, .nil, fun F => .nil, rfl⟩)), 
    fun q hq => (by cases hq)⟩
  have D36 : DefOk K mg "_law_shared" d__law_shared f36 _ := ⟨PySem.W.mg_of X G a36, k36, ⟨_, _, _, _, _, _, _, _, _, _, _, _, _, rfl, l36, c36⟩, sc__law_shared, 
    fun q hq => (by
      simp only [d__law_shared, List.mem_cons, List.not_mem_nil, or_false] at hq
      subst hq
      (exact ⟨[], [], .all fun us hl => match us, hl with | [_], _ => rfl, .nil, fun F => .nil, rfl⟩)), 
    fun q hq => (by cases hq)⟩
  have D37 : DefOk K mg "_law_points" d__law_points f37 _ := ⟨PySem.W.mg_of X G a37, k37, ⟨_, _, _, _, _, _, _, _, _, _, _, _, _, rfl, l37, c37⟩, sc__law_points, 
    fun q hq => (by
      simp only [d__law_points, List.mem_cons, List.not_mem_nil, or_false] at hq
      subst hq
      (exact ⟨[], [], .all fun us hl => match us, hl with | [_], _ => rfl, .nil, fun F => .nil, rfl⟩)), 
    fun q hq => (by cases hq)⟩
  have D38 : DefOk K mg "_law_shoelace" d__law_shoelace f38 _ := ⟨PySem.W.mg_of X G a38, k38, ⟨_, _, _, _, _, _, _, _, _, _, _, _, _, rfl, l38, c38⟩, sc__law_shoelace, 
    fun q hq => (by
      simp only [d__law_shoelace, List.mem_cons, List.not_mem_nil, or_false] at hq
      subst hq
      (exact ⟨[], [], .all fun us hl => match us, hl with | [_], _ => rfl, .nil, fun F => .nil, rfl⟩)), 
    fun q hq => (by cases hq)⟩
  have D39 : DefOk K mg "_law_right_hull" d__law_right_hull f39 _ := ⟨PySem.W.mg_of X G a39, k39, ⟨_, _, _, _, _, _, _, _, _, _, _, _, _, rfl, l39, c39⟩, sc__law_right_hull, 
    fun q hq => (by
      simp only [d__law_right_hull, List.mem_cons, List.not_mem_nil, or_false] at hq
      subst hq
      (exact ⟨[], [], .all fun us hl => match us, hl with | [_], _ => rfl, .nil, fun F => .nil, rfl⟩)), 
    fun q hq => (by cases hq)⟩
  have D40 : DefOk K mg "_law_drawn" d__law_drawn f40 _ := ⟨PySem.W.mg_of X G a40, k40, ⟨_, _, _, _, _, _, _, _, _, _, _, _, _, rfl, l40, c40⟩, sc__law_drawn, 
    fun q hq => (by
      simp only [d__law_drawn, List.mem_cons, List.not_mem_nil, or_false] at hq
      subst hq
      (exact ⟨[], [], .all fun us hl => match us, hl with | [_], _ => rfl, .nil, fun F => .nil, rfl⟩)), 
    fun q hq => (by cases hq)⟩
  have D41 : DefOk K mg "_law_is_left" d__law_is_left f41 _ := ⟨PySem.W.mg_of X G a41, k41, ⟨_, _, _, _, _, _, _, _, _, _, _, _, _, rfl, l41, c41⟩, sc__law_is_left, 
    fun q hq => (by
      simp only [d__law_is_left, List.mem_cons, List.not_mem_nil, or_false] at hq
      subst hq
      (exact ⟨[], [], .all fun us hl => match us, hl with | [_, _, _], _ => rfl, .nil, fun F => .nil, rfl⟩)), 
    fun q hq => (by cases hq)⟩
  have D42 : DefOk K mg "law" d_law f42 _ := ⟨PySem.W.mg_of X G a42, k42, ⟨_, _, _, _, _, _, _, _, _, _, _, _, _, rfl, l42, c42⟩, sc_law, 
    fun q hq => (by
      simp only [d_law, List.mem_cons, List.not_mem_nil, or_false] at hq
      subst hq
      (exact ⟨[], [], .all fun us hl => match us, hl with | [_], _ => rfl, .nil, fun F => .nil, rfl⟩)), 
    fun q hq => (by cases hq)⟩
  refine ⟨_, D42, ⟨.cons D0 (.cons D1 (.cons D2 (.cons D3 (.cons D4 (.cons D5 (.cons D6 (.cons D7 (.cons D8 (.cons D9 (.cons D10 (.cons D11 (.cons D12 (.cons D13 (.cons D14 (.cons D15 (.cons D16 (.cons D17 (.cons D18 (.cons D19 (.cons D20 (.cons D21 (.cons D22 (.cons D23 (.cons D24 (.cons D25 (.cons D26 (.cons D27 (.cons D28 (.cons D29 (.cons D30 (.cons D31 (.cons D32 (.cons D33 (.cons D34 (.cons D35 (.cons D36 (.cons D37 (.cons D38 (.cons D39 (.cons D40 (.cons D41 (.cons D42 (.nil))))))))))))))))))))))))))))))))))))))))))), fun q hq => (by cases hq), fun x hx => ?_, fun q hq => ?_⟩, fun s v => .of_eq rfl⟩
  · simp only [bltNames, List.mem_cons, List.not_mem_nil, or_false] at hx
    rcases hx with rfl | rfl | rfl | rfl | rfl | rfl | rfl | rfl
    all_goals first | exact PySem.W.mg_none_of X G b_abs | exact PySem.W.mg_none_of X G b_all | exact PySem.W.mg_none_of X G b_any | exact PySem.W.mg_none_of X G b_bool | exact PySem.W.mg_none_of X G b_int | exact PySem.W.mg_none_of X G b_isinstance | exact PySem.W.mg_none_of X G b_len | exact PySem.W.mg_none_of X G b_list | exact PySem.W.mg_none_of X G b_range | exact PySem.W.mg_none_of X G b_str | exact PySem.W.mg_none_of X G b_tuple
  · simp only [tyNames, List.mem_cons, List.not_mem_nil, or_false] at hq
    rcases hq with rfl | rfl | rfl | rfl | rfl
    all_goals first | exact PySem.W.mg_none_of X G b_abs | exact PySem.W.mg_none_of X G b_all | exact PySem.W.mg_none_of X G b_any | exact PySem.W.mg_none_of X G b_bool | exact PySem.W.mg_none_of X G b_int | exact PySem.W.mg_none_of X G b_isinstance | exact PySem.W.mg_none_of X G b_len | exact PySem.W.mg_none_of X G b_list | exact PySem.W.mg_none_of X G b_range | exact PySem.W.mg_none_of X G b_str | exact PySem.W.mg_none_of X G b_tuple
end
theorem gens_eq : prog.gens = [] := by rfl
theorem tabs_ok {K : PySem.W.Frag} : TabsOk K prog [] := by
  unfold TabsOk
  rw [gens_eq]
  exact ⟨fun q hq => (nomatch hq), fun q hq => (nomatch hq)⟩
theorem walk (hlaw : ∀ ns : List Int, ns.length ≤ 63 → run prog 20 "law" [.lst (ns.map .int)] = some (.bl true, false)) {l : PySem.W.OpenLaw} {q : Program} {loose : List Str} {XP : (Str → Option Value) → Heap → Prop} {YP : World → Heap → Prop} {r : DefRec} {K : Params → PySem.W.Frag} (hn : l.most = some 63) (hdf : r.params.defaults = [])
    (hrec : ([].all fun g => ((PyProof.Rows.recsOf q).find? fun e => e.name == g).isSome) = true)
    (hY : ∀ (w : World) (h : Heap), YP w h → (K w.params).In h)
    (F : ∀ (w : World) (mg : Str → Option Value) (fa : Addr) (h : Heap), (K w.params).In h → h.Ns mainGlobals mg → mg r.name = some (.ref fa) → RowOk (K w.params) mg prog d_law fa ∧ mg "all" = none ∧ mg "any" = none ∧ ∃ cs, TabsOk (K w.params) prog cs) :
    PySem.W.WalkO q loose XP YP l.row.toRowW r [] (fun f vs => PySem.call f vs) :=
  walk_tabs rfl rfl hlaw hn hdf (by rw [gens_eq]; exact hrec) hY F
theorem fin {K : PySem.W.Frag} {mg : Str → Option Value} {fa f : Addr} (hmg : mg "law" = some (.ref fa)) (h : ∃ fd, DefOk K mg "law" d_law f fd ∧ PgOk K mg prog ∧ (∀ (s : Shared) (v : Value), BindsTo s fd ⟨[v], []⟩ [("script", v)])) : ∃ fd, DefOk K mg "law" d_law fa fd ∧ PgOk K mg prog ∧ (∀ (s : Shared) (v : Value), BindsTo s fd ⟨[v], []⟩ [("script", v)]) := by
  obtain ⟨fd, D, O, B⟩ := h
  have e := hmg.symm.trans D.mg
  cases e
  exact ⟨fd, D, O, B⟩
end K66

/-! Sums over the sides of polygons; clips -/
namespace K66

abbrev Pt := Rat × Rat
def turn (a b c : Pt) : Rat := (b.1 - a.1) * (c.2 - a.2) - (b.2 - a.2) * (c.1 - a.1)
def crossP (a b : Pt) (p q : Rat) : Pt := (a.1 + p / (p - q) * (b.1 - a.1), a.2 + p / (p - q) * (b.2 - a.2))
def outE (s e a b : Pt) : List Pt := (if 0 ≤ turn s e a then [a] else []) ++ (if turn s e a * turn s e b < 0 then [crossP a b (turn s e a) (turn s e b)] else [])
def clipP (s e : Pt) : Pt → List Pt → List Pt
  | _, [] => []
  | a, b :: r => outE s e a b ++ clipP s e b r
/-- a polygon cut by a line -/
def clip (s e : Pt) : List Pt → List Pt
  | [] => []
  | a :: r => clipP s e a (r ++ [a])
abbrev Fun2 := Pt → Pt → Rat
def sumP (G : Fun2) : Pt → List Pt → Rat
  | _, [] => 0
  | a, b :: r => G a b + sumP G b r
/-- the sum over the sides -/
def sumC (G : Fun2) : List Pt → Rat
  | [] => 0
  | a :: r => sumP G a (r ++ [a])
/-- additive on a line -/
def Add (G : Fun2) : Prop := ∀ a b c, turn a b c = 0 → G a b + G b c = G a c
theorem tri (x y : Rat) : x < y ∨ x = y ∨ y < x := by grind
theorem turn_aab (a c : Pt) : turn a a c = 0 := by unfold turn; grind
theorem turn_aba (a b : Pt) : turn a b a = 0 := by unfold turn; grind
theorem turn_abb (a b : Pt) : turn a b b = 0 := by unfold turn; grind
theorem Add.self {G : Fun2} (h : Add G) (a : Pt) : G a a = 0 := by have := h a a a (turn_aab a a); grind
theorem Add.anti {G : Fun2} (h : Add G) (a b : Pt) : G a b = -G b a := by have := h a b a (turn_aba a b); have := h.self a; grind

theorem on_line {s e x y z : Pt} (hs : s ≠ e) (hx : turn s e x = 0) (hy : turn s e y = 0) (hz : turn s e z = 0) : turn x y z = 0 := by
  unfold turn at *
  have h : e.1 - s.1 ≠ 0 ∨ e.2 - s.2 ≠ 0 := by
    by_cases h1 : e.1 - s.1 = 0
    · by_cases h2 : e.2 - s.2 = 0
      · exact absurd (Prod.ext (by grind) (by grind)) hs
      · exact .inr h2
    · exact .inl h1
  rcases h with h | h
  · have : (e.1 - s.1) * ((y.1 - x.1) * (z.2 - x.2) - (y.2 - x.2) * (z.1 - x.1)) = 0 := by grind
    rcases Rat.mul_eq_zero.mp this with h' | h'
    · exact absurd h' h
    · exact h'
  · have : (e.2 - s.2) * ((y.1 - x.1) * (z.2 - x.2) - (y.2 - x.2) * (z.1 - x.1)) = 0 := by grind
    rcases Rat.mul_eq_zero.mp this with h' | h'
    · exact absurd h' h
    · exact h'
theorem turn_s (s e : Pt) : turn s e s = 0 := by unfold turn; grind
theorem turn_e (s e : Pt) : turn s e e = 0 := by unfold turn; grind
theorem turn_rev (s e v : Pt) : turn e s v = -turn s e v := by unfold turn; grind
theorem turn_swap (a b c : Pt) : turn a b c = turn b c a := by unfold turn; grind
/-- the crossing point stands on both lines -/
theorem cross_on {s e a b : Pt} (h : turn s e a ≠ turn s e b) : turn s e (crossP a b (turn s e a) (turn s e b)) = 0 := by
  have h' : turn s e a - turn s e b ≠ 0 := fun z => h (by grind)
  have key : ∀ p q r : Rat, p - q ≠ 0 → p + p / (p - q) * (q - p) = 0 := fun p q r h => by grind
  have e1 : turn s e (crossP a b (turn s e a) (turn s e b)) = turn s e a + turn s e a / (turn s e a - turn s e b) * (turn s e b - turn s e a) := by
    generalize hk : turn s e a / (turn s e a - turn s e b) = k
    unfold crossP
    rw [hk]
    unfold turn
    grind
  rw [e1]
  exact key _ _ 0 h'
theorem cross_col (a b : Pt) (p q : Rat) : turn a b (crossP a b p q) = 0 := by
  unfold crossP turn
  generalize p / (p - q) = k
  grind
/-- it is the one -/
theorem cross_uniq {s e a b x y : Pt} (h : turn s e a ≠ turn s e b) (hx : turn s e x = 0) (hy : turn s e y = 0) (ax : turn a b x = 0) (ay : turn a b y = 0) : x = y := by
  have h' : turn s e b - turn s e a ≠ 0 := fun z => h (by grind)
  have e1 : (turn s e b - turn s e a) * (y.1 - x.1) = 0 := by unfold turn at *; grind
  have e2 : (turn s e b - turn s e a) * (y.2 - x.2) = 0 := by unfold turn at *; grind
  rcases Rat.mul_eq_zero.mp e1 with z | z
  · exact absurd z h'
  rcases Rat.mul_eq_zero.mp e2 with w | w
  · exact absurd w h'
  exact Prod.ext (by grind) (by grind)

/-- what a clip makes of a sum -/
def TT (s e : Pt) (G : Fun2) : Fun2 := fun a b =>
  if 0 ≤ turn s e a then (if 0 ≤ turn s e b then G a b else G a (crossP a b (turn s e a) (turn s e b)) + G (crossP a b (turn s e a) (turn s e b)) s)
  else if 0 ≤ turn s e b then G s (crossP a b (turn s e a) (turn s e b)) + G (crossP a b (turn s e a) (turn s e b)) b else 0
/-- a point below the line goes to its start -/
def rr (s e a : Pt) : Pt := if 0 ≤ turn s e a then a else s
def lastP : Pt → List Pt → Pt
  | a, [] => a
  | _, b :: r => lastP b r
theorem lastP_snoc : ∀ (a : Pt) (r : List Pt) (z : Pt), lastP a (r ++ [z]) = z
  | _, [], _ => rfl
  | _, b :: r, z => lastP_snoc b r z

section
variable {s e : Pt} {G : Fun2}
theorem sumP_app (G : Fun2) : ∀ (x : Pt) (l : List Pt) (z : Pt), sumP G x (l ++ [z]) = sumP G x l + G (lastP x l) z
  | x, [], z => by simp only [List.nil_append, sumP, lastP]; grind
  | x, b :: r, z => by simp only [List.cons_append, sumP, lastP, sumP_app G b r z]; grind
/-- another start -/
theorem sumP_start (G : Fun2) (x y : Pt) : ∀ (l : List Pt) (w : Pt), sumP G x (w :: l) = G x w - G y w + sumP G y (w :: l) := fun l w => by
  simp only [sumP]; grind
theorem first_pos {b : Pt} {bs : List Pt} (h : 0 ≤ turn s e b) : ∃ l, clipP s e b bs ++ [rr s e (lastP b bs)] = b :: l := by
  cases bs with
  | nil => exact ⟨[], by simp only [clipP, lastP, rr, h, if_true, List.nil_append]⟩
  | cons c bs => exact ⟨_, by simp only [clipP, outE, h, if_true, List.cons_append, List.nil_append, List.append_assoc]; rfl⟩
theorem cross_neg {a b : Pt} (h : turn s e a * turn s e b < 0) : turn s e a ≠ turn s e b := fun z => by
  rw [z] at h
  have : 0 ≤ turn s e b * turn s e b := by
    rcases Rat.le_total (a := 0) (b := turn s e b) with h1 | h1
    · exact Rat.mul_nonneg h1 h1
    · have := Rat.mul_nonneg (a := -turn s e b) (b := -turn s e b) (by grind) (by grind)
      grind
  grind
theorem mul_neg_of {x y : Rat} (hx : x < 0) (hy : 0 < y) : x * y < 0 := by
  have := Rat.mul_pos (a := -x) (b := y) (by grind) hy
  grind
theorem mul_nn {x y : Rat} (hx : x ≤ 0) (hy : y ≤ 0) : 0 ≤ x * y := by
  have := Rat.mul_nonneg (a := -x) (b := -y) (by grind) (by grind)
  grind
theorem first_neg : ∀ {bs : List Pt} {b : Pt}, turn s e b < 0 → ∃ w l, clipP s e b bs ++ [rr s e (lastP b bs)] = w :: l ∧ turn s e w = 0
  | [], b, h => by
    have rb : rr s e b = s := by unfold rr; rw [if_neg (by grind)]
    exact ⟨s, [], by simp only [clipP, lastP, List.nil_append, rb], turn_s s e⟩
  | c :: bs, b, h => by
    have hb : ¬ 0 ≤ turn s e b := by grind
    simp only [clipP, outE, lastP, hb, if_false, List.nil_append]
    by_cases hc : turn s e b * turn s e c < 0
    · rw [if_pos hc]
      exact ⟨_, _, rfl, cross_on (cross_neg hc)⟩
    · rw [if_neg hc, List.nil_append]
      by_cases hz : 0 ≤ turn s e c
      · obtain ⟨l, hl⟩ := first_pos (bs := bs) hz
        refine ⟨c, l, hl, ?_⟩
        by_cases hp : 0 < turn s e c
        · exact absurd (mul_neg_of h hp) hc
        · grind
      · exact first_neg (by grind)
theorem path_sum (hG : Add G) (hs : s ≠ e) : ∀ (bs : List Pt) (a : Pt), sumP G (rr s e a) (clipP s e a bs ++ [rr s e (lastP a bs)]) = sumP (TT s e G) a bs
  | [], a => by
    simp only [clipP, lastP, List.nil_append, sumP, hG.self]
    grind
  | b :: bs, a => by
    have ih := path_sum hG hs bs b
    simp only [clipP, lastP, sumP, ← ih]
    by_cases hb : 0 ≤ turn s e b
    · obtain ⟨l, hl⟩ := first_pos (bs := bs) hb
      have rb : rr s e b = b := by unfold rr; rw [if_pos hb]
      rw [List.append_assoc, hl, rb]
      by_cases ha : 0 ≤ turn s e a
      · have ra : rr s e a = a := by unfold rr; rw [if_pos ha]
        have hc : ¬ turn s e a * turn s e b < 0 := by have := Rat.mul_nonneg ha hb; grind
        simp only [outE, TT, ha, hb, hc, if_true, if_false, ra, List.append_nil, List.cons_append, List.nil_append, sumP, hG.self]
        grind
      · have ra : rr s e a = s := by unfold rr; rw [if_neg ha]
        by_cases hp : 0 < turn s e b
        · have hc := mul_neg_of (by grind : turn s e a < 0) hp
          simp only [outE, TT, ha, hb, hc, if_true, if_false, ra, List.append_nil, List.cons_append, List.nil_append, sumP, hG.self]
          grind
        · have h0 : turn s e b = 0 := by grind
          have hc : ¬ turn s e a * turn s e b < 0 := by rw [h0]; grind
          have hx : crossP a b (turn s e a) (turn s e b) = b := by
            have hn : turn s e a ≠ turn s e b := by rw [h0]; grind
            exact cross_uniq hn (cross_on hn) h0 (cross_col _ _ _ _) (turn_abb a b)
          simp only [outE, TT, ha, hb, hc, if_true, if_false, ra, hx, List.append_nil, List.cons_append, List.nil_append, sumP, hG.self]
          grind
    · obtain ⟨w, l, hl, hw⟩ := first_neg (bs := bs) (by grind : turn s e b < 0)
      have rb : rr s e b = s := by unfold rr; rw [if_neg hb]
      rw [List.append_assoc, hl, rb]
      have col : ∀ x, turn s e x = 0 → G x s + G s w = G x w := fun x hx => hG _ _ _ (on_line hs hx (turn_s s e) hw)
      by_cases ha : 0 ≤ turn s e a
      · have ra : rr s e a = a := by unfold rr; rw [if_pos ha]
        by_cases hp : 0 < turn s e a
        · have hc : turn s e a * turn s e b < 0 := by have := mul_neg_of (by grind : turn s e b < 0) hp; grind
          have := col _ (cross_on (cross_neg hc))
          simp only [outE, TT, ha, hb, hc, if_true, if_false, ra, List.append_nil, List.cons_append, List.nil_append, sumP, hG.self]
          grind
        · have h0 : turn s e a = 0 := by grind
          have hc : ¬ turn s e a * turn s e b < 0 := by rw [h0]; grind
          have hx : crossP a b (turn s e a) (turn s e b) = a := by
            have hn : turn s e a ≠ turn s e b := by rw [h0]; grind
            exact cross_uniq hn (cross_on hn) h0 (cross_col _ _ _ _) (turn_aba a b)
          have := col _ h0
          simp only [outE, TT, ha, hb, hc, if_true, if_false, ra, hx, List.append_nil, List.cons_append, List.nil_append, sumP, hG.self]
          grind
      · have ra : rr s e a = s := by unfold rr; rw [if_neg ha]
        have hc : ¬ turn s e a * turn s e b < 0 := by have := mul_nn (by grind : turn s e a ≤ 0) (by grind : turn s e b ≤ 0); grind
        simp only [outE, TT, ha, hb, hc, if_false, ra, List.append_nil, List.cons_append, List.nil_append, sumP]
        grind
theorem clipP_nil : ∀ {bs : List Pt} {b : Pt}, clipP s e b bs = [] → turn s e (lastP b bs) < 0 → turn s e b < 0
  | [], _, _, h => h
  | c :: bs, b, h, _ => by
    simp only [clipP, outE, List.append_eq_nil_iff] at h
    have h1 := h.1.1
    split at h1
    · cases h1
    · grind
theorem lastP_app : ∀ (a : Pt) (l m : List Pt), lastP a (l ++ m) = lastP (lastP a l) m
  | _, [], _ => rfl
  | _, b :: l, m => lastP_app b l m
theorem lastP_cons (a x : Pt) (l : List Pt) : lastP a (x :: l) = lastP x l := rfl
theorem lastP_ne : ∀ (a b : Pt) (l : List Pt), l ≠ [] → lastP a l = lastP b l
  | _, _, [], h => absurd rfl h
  | _, _, _ :: _, _ => rfl
theorem last_on : ∀ {bs : List Pt} {a : Pt}, turn s e (lastP a bs) < 0 → turn s e (lastP (rr s e a) (clipP s e a bs)) = 0
  | [], a, h => by
    simp only [clipP, lastP] at h ⊢
    unfold rr
    rw [if_neg (by grind)]
    exact turn_s s e
  | b :: bs, a, h => by
    simp only [lastP] at h
    have ih := last_on (bs := bs) (a := b) h
    simp only [clipP]
    rw [lastP_app]
    by_cases hn : clipP s e b bs = []
    · have hb := clipP_nil hn h
      rw [hn]
      simp only [lastP]
      by_cases ha : 0 ≤ turn s e a
      · have ra : rr s e a = a := by unfold rr; rw [if_pos ha]
        by_cases hp : 0 < turn s e a
        · have hc : turn s e a * turn s e b < 0 := by have := mul_neg_of hb hp; grind
          simp only [outE, ha, hc, if_true, List.cons_append, List.nil_append, lastP]
          exact cross_on (cross_neg hc)
        · have h0 : turn s e a = 0 := by grind
          have hc : ¬ turn s e a * turn s e b < 0 := by rw [h0]; grind
          simp only [outE, ha, hc, if_true, if_false, List.append_nil, lastP]
          exact h0
      · have ra : rr s e a = s := by unfold rr; rw [if_neg ha]
        have hc : ¬ turn s e a * turn s e b < 0 := by have := mul_nn (by grind : turn s e a ≤ 0) (by grind : turn s e b ≤ 0); grind
        simp only [outE, ha, hc, if_false, List.append_nil, lastP, ra]
        exact turn_s s e
    · rw [lastP_ne _ (rr s e b) _ hn]
      exact ih
/-- the sum over what a clip leaves -/
theorem clip_sum (hG : Add G) (hs : s ≠ e) (P : List Pt) : sumC G (clip s e P) = sumC (TT s e G) P := by
  cases P with
  | nil => rfl
  | cons a r =>
    have h := path_sum hG hs (r ++ [a]) a
    have hz := lastP_snoc a r a
    rw [hz] at h
    show sumC G (clipP s e a (r ++ [a])) = sumP (TT s e G) a (r ++ [a])
    rw [← h]
    by_cases ha : 0 ≤ turn s e a
    · obtain ⟨l, hl⟩ := first_pos (bs := r ++ [a]) ha
      have ra : rr s e a = a := by unfold rr; rw [if_pos ha]
      rw [hz, ra] at hl
      rw [ra]
      cases hR : clipP s e a (r ++ [a]) with
      | nil => simp only [sumC, List.nil_append, sumP, hG.self]; grind
      | cons w R =>
        rw [hR] at hl
        simp only [List.cons_append, List.cons.injEq] at hl
        obtain ⟨rfl, _⟩ := hl
        simp only [sumC, List.cons_append, sumP, hG.self]
        grind
    · have ra : rr s e a = s := by unfold rr; rw [if_neg ha]
      have hl := last_on (s := s) (e := e) (bs := r ++ [a]) (a := a) (by rw [hz]; grind)
      obtain ⟨w, l, hw, h0⟩ := first_neg (s := s) (e := e) (bs := r ++ [a]) (b := a) (by grind)
      rw [hz, ra] at hw
      rw [ra] at hl ⊢
      cases hR : clipP s e a (r ++ [a]) with
      | nil => simp only [sumC, List.nil_append, sumP, hG.self]; grind
      | cons w' R =>
        rw [hR] at hl hw
        simp only [List.cons_append, List.cons.injEq] at hw
        obtain ⟨rfl, _⟩ := hw
        simp only [lastP] at hl
        simp only [sumC, List.cons_append, sumP, sumP_app]
        have := hG _ _ _ (on_line hs hl (turn_s s e) h0)
        grind
/-- what a clip makes of a sum is additive again -/
theorem TT_add (hG : Add G) (hs : s ≠ e) : Add (TT s e G) := fun a b c hc => by
  have U : ∀ {x y : Pt}, turn s e x ≠ turn s e y → turn s e (crossP x y (turn s e x) (turn s e y)) = 0 := fun h => cross_on h
  have hbc : turn b c a = 0 := by rw [← turn_swap]; exact hc
  have hca : turn c a b = 0 := by rw [turn_swap, turn_swap]; rw [turn_swap, turn_swap] at hc; grind [turn]
  unfold TT
  have col1 : ∀ {x y : Pt} (p q : Rat), turn x y (crossP x y p q) = 0 := fun p q => cross_col _ _ p q
  -- the three points lie on one line
  have tr : ∀ {x y z w : Pt}, turn s e x ≠ turn s e y → turn x y z = 0 → turn x y w = 0 → ∀ v, turn x y v = 0 → turn z w v = 0 := fun {x y z w} hn hz hw v hv => by
    have hxy : x ≠ y := fun z => hn (by rw [z])
    exact on_line hxy hz hw hv
  by_cases ha : 0 ≤ turn s e a
  · by_cases hb : 0 ≤ turn s e b
    · by_cases hd : 0 ≤ turn s e c
      · simp only [ha, hb, hd, if_true]
        exact hG a b c hc
      · simp only [ha, hb, hd, if_true, if_false]
        have n1 : turn s e b ≠ turn s e c := by grind
        have n2 : turn s e a ≠ turn s e c := by grind
        have ex : crossP b c (turn s e b) (turn s e c) = crossP a c (turn s e a) (turn s e c) := cross_uniq n1 (U n1) (U n2) (col1 _ _) (by
          refine tr n2 ?_ ?_ _ (col1 _ _)
          · grind [turn]
          · exact turn_abb a c)
        rw [ex]
        have := hG a b (crossP a c (turn s e a) (turn s e c)) (tr n2 (turn_aba a c) (by grind [turn]) _ (col1 _ _))
        grind
    · by_cases hd : 0 ≤ turn s e c
      · simp only [ha, hb, hd, if_true, if_false]
        have n1 : turn s e a ≠ turn s e b := by grind
        have n2 : turn s e b ≠ turn s e c := by grind
        have ex : crossP b c (turn s e b) (turn s e c) = crossP a b (turn s e a) (turn s e b) := cross_uniq n2 (U n2) (U n1) (col1 _ _) (by
          refine tr n1 (turn_abb a b) ?_ _ (col1 _ _)
          exact hc)
        rw [ex]
        have h1 := hG a (crossP a b (turn s e a) (turn s e b)) c (tr n1 (turn_aba a b) (col1 _ _) _ hc)
        have h2 := hG.anti s (crossP a b (turn s e a) (turn s e b))
        grind
      · simp only [ha, hb, hd, if_true, if_false]
        have n1 : turn s e a ≠ turn s e b := by grind
        have n2 : turn s e a ≠ turn s e c := by grind
        have ex : crossP a c (turn s e a) (turn s e c) = crossP a b (turn s e a) (turn s e b) := cross_uniq n2 (U n2) (U n1) (col1 _ _) (by
          refine tr n1 (turn_aba a b) hc _ (col1 _ _))
        rw [ex]
        grind
  · by_cases hb : 0 ≤ turn s e b
    · by_cases hd : 0 ≤ turn s e c
      · simp only [ha, hb, hd, if_true, if_false]
        have n1 : turn s e a ≠ turn s e b := by grind
        have n2 : turn s e a ≠ turn s e c := by grind
        have ex : crossP a c (turn s e a) (turn s e c) = crossP a b (turn s e a) (turn s e b) := cross_uniq n2 (U n2) (U n1) (col1 _ _) (by
          refine tr n1 (turn_aba a b) hc _ (col1 _ _))
        rw [ex]
        have := hG (crossP a b (turn s e a) (turn s e b)) b c (tr n1 (col1 _ _) (turn_abb a b) _ hc)
        grind
      · simp only [ha, hb, hd, if_true, if_false]
        have n1 : turn s e a ≠ turn s e b := by grind
        have n2 : turn s e b ≠ turn s e c := by grind
        have ex : crossP b c (turn s e b) (turn s e c) = crossP a b (turn s e a) (turn s e b) := cross_uniq n2 (U n2) (U n1) (col1 _ _) (by
          refine tr n1 (turn_abb a b) ?_ _ (col1 _ _)
          exact hc)
        rw [ex]
        have h1 := hG (crossP a b (turn s e a) (turn s e b)) b (crossP a b (turn s e a) (turn s e b)) (turn_aba _ _)
        have h2 := hG.anti s (crossP a b (turn s e a) (turn s e b))
        have h3 := hG.self (crossP a b (turn s e a) (turn s e b))
        grind
    · by_cases hd : 0 ≤ turn s e c
      · simp only [ha, hb, hd, if_true, if_false]
        have n1 : turn s e b ≠ turn s e c := by grind
        have n2 : turn s e a ≠ turn s e c := by grind
        have ex : crossP b c (turn s e b) (turn s e c) = crossP a c (turn s e a) (turn s e c) := cross_uniq n1 (U n1) (U n2) (col1 _ _) (by
          refine tr n2 ?_ ?_ _ (col1 _ _)
          · grind [turn]
          · exact turn_abb a c)
        rw [ex]
        grind
      · simp only [ha, hb, hd, if_false]
        grind
/-- both sides of a line -/
def ps (s e : Pt) (G : Fun2) (v : Pt) : Rat := if turn s e v < 0 then 0 else if turn s e v = 0 then G s v else G s e
theorem onl (hG : Add G) (hs : s ≠ e) {x : Pt} (hx : turn s e x = 0) : G x s + G s e = G x e := hG _ _ _ (on_line hs hx (turn_s s e) (turn_e s e))
theorem onl2 (hG : Add G) (hs : s ≠ e) {x y : Pt} (hx : turn s e x = 0) (hy : turn s e y = 0) : G x s + G s y = G x y := hG _ _ _ (on_line hs hx (turn_s s e) hy)
theorem neg_cross {a b : Pt} (h : turn s e a ≠ turn s e b) : crossP a b (-turn s e a) (-turn s e b) = crossP a b (turn s e a) (turn s e b) := by
  have h1 : turn e s a ≠ turn e s b := by rw [turn_rev s e a, turn_rev s e b]; exact fun z => h (by grind)
  have := cross_on h1
  rw [turn_rev s e a, turn_rev s e b, turn_rev s e (crossP a b _ _)] at this
  exact cross_uniq h (by grind) (cross_on h) (cross_col _ _ _ _) (cross_col _ _ _ _)
theorem col_mid (a b : Pt) (p q : Rat) : turn a (crossP a b p q) b = 0 := by
  have := cross_col a b p q
  generalize crossP a b p q = x at *
  unfold turn at *
  grind
theorem TT_both (hG : Add G) (hs : s ≠ e) (a b : Pt) : TT s e G a b + TT e s G a b = G a b + (ps s e G b - ps s e G a) := by
  unfold TT ps
  simp only [turn_rev s e a, turn_rev s e b]
  rcases tri (turn s e a) 0 with ha | ha | ha
  · have a1 : ¬ 0 ≤ turn s e a := by grind
    have a2 : 0 ≤ -turn s e a := by grind
    rcases tri (turn s e b) 0 with hb | hb | hb
    · have b1 : ¬ 0 ≤ turn s e b := by grind
      have b2 : 0 ≤ -turn s e b := by grind
      simp only [a1, a2, b1, b2, ha, hb, if_true, if_false]
      grind
    · have b1 : 0 ≤ turn s e b := by grind
      have b2 : 0 ≤ -turn s e b := by grind
      have n : turn s e a ≠ turn s e b := by grind
      have ex : crossP a b (turn s e a) (turn s e b) = b := cross_uniq n (cross_on n) hb (cross_col _ _ _ _) (turn_abb a b)
      have b3 : ¬ turn s e b < 0 := by grind
      simp only [a1, a2, b1, b2, ha, b3, if_true, if_false, ex, hG.self]
      rw [if_pos hb]
      grind
    · have b1 : 0 ≤ turn s e b := by grind
      have b2 : ¬ 0 ≤ -turn s e b := by grind
      have n : turn s e a ≠ turn s e b := by grind
      have b3 : ¬ turn s e b < 0 := by grind
      have b4 : ¬ turn s e b = 0 := by grind
      simp only [a1, a2, b1, b2, ha, b3, b4, if_true, if_false, neg_cross n]
      have h1 := hG _ _ _ (col_mid a b (turn s e a) (turn s e b))
      have h2 := onl hG hs (cross_on n)
      have h3 := hG.anti s (crossP a b (turn s e a) (turn s e b))
      grind
  · have a1 : 0 ≤ turn s e a := by grind
    have a2 : 0 ≤ -turn s e a := by grind
    have a3 : ¬ turn s e a < 0 := by grind
    rcases tri (turn s e b) 0 with hb | hb | hb
    · have b1 : ¬ 0 ≤ turn s e b := by grind
      have b2 : 0 ≤ -turn s e b := by grind
      have n : turn s e a ≠ turn s e b := by grind
      have ex : crossP a b (turn s e a) (turn s e b) = a := cross_uniq n (cross_on n) ha (cross_col _ _ _ _) (turn_aba a b)
      simp only [a1, a2, b1, b2, a3, hb, if_true, if_false, ex, hG.self]
      rw [if_pos ha]
      have := hG.anti s a
      grind
    · have b1 : 0 ≤ turn s e b := by grind
      have b2 : 0 ≤ -turn s e b := by grind
      have b3 : ¬ turn s e b < 0 := by grind
      simp only [a1, a2, b1, b2, a3, b3, if_true, if_false]
      rw [if_pos ha, if_pos hb]
      have := onl2 hG hs ha hb
      have := hG.anti s a
      grind
    · have b1 : 0 ≤ turn s e b := by grind
      have b2 : ¬ 0 ≤ -turn s e b := by grind
      have n : turn s e a ≠ turn s e b := by grind
      have b3 : ¬ turn s e b < 0 := by grind
      have b4 : ¬ turn s e b = 0 := by grind
      have ex : crossP a b (turn s e a) (turn s e b) = a := cross_uniq n (cross_on n) ha (cross_col _ _ _ _) (turn_aba a b)
      simp only [a1, a2, b1, b2, a3, b3, b4, if_true, if_false, neg_cross n, ex, hG.self]
      rw [if_pos ha]
      have := onl hG hs ha
      have := hG.anti s a
      grind
  · have a1 : 0 ≤ turn s e a := by grind
    have a2 : ¬ 0 ≤ -turn s e a := by grind
    have a3 : ¬ turn s e a < 0 := by grind
    have a4 : ¬ turn s e a = 0 := by grind
    rcases tri (turn s e b) 0 with hb | hb | hb
    · have b1 : ¬ 0 ≤ turn s e b := by grind
      have b2 : 0 ≤ -turn s e b := by grind
      have n : turn s e a ≠ turn s e b := by grind
      simp only [a1, a2, b1, b2, a3, a4, hb, if_true, if_false, neg_cross n]
      have h1 := hG _ _ _ (col_mid a b (turn s e a) (turn s e b))
      have h2 := hG _ _ _ (show turn e (crossP a b (turn s e a) (turn s e b)) s = 0 from on_line hs (turn_e s e) (cross_on n) (turn_s s e))
      have h3 := hG.anti s e
      grind
    · have b1 : 0 ≤ turn s e b := by grind
      have b2 : 0 ≤ -turn s e b := by grind
      have n : turn s e a ≠ turn s e b := by grind
      have ex : crossP a b (turn s e a) (turn s e b) = b := cross_uniq n (cross_on n) hb (cross_col _ _ _ _) (turn_abb a b)
      have b3 : ¬ turn s e b < 0 := by grind
      simp only [a1, a2, b1, b2, a3, a4, b3, if_true, if_false, neg_cross n, ex, hG.self]
      rw [if_pos hb]
      have := onl hG hs hb
      have := hG.anti s b
      have := hG.anti e b
      grind
    · have b1 : 0 ≤ turn s e b := by grind
      have b2 : ¬ 0 ≤ -turn s e b := by grind
      have b3 : ¬ turn s e b < 0 := by grind
      have b4 : ¬ turn s e b = 0 := by grind
      simp only [a1, a2, b1, b2, a3, a4, b3, b4, if_true, if_false]
      grind
theorem sumP_both (hG : Add G) (hs : s ≠ e) : ∀ (l : List Pt) (a : Pt), sumP (TT s e G) a l + sumP (TT e s G) a l = sumP G a l + (ps s e G (lastP a l) - ps s e G a)
  | [], a => by simp only [sumP, lastP]; grind
  | b :: l, a => by
    have h := TT_both hG hs a b
    have ih := sumP_both hG hs l b
    simp only [sumP, lastP]
    grind
theorem sumC_both (hG : Add G) (hs : s ≠ e) (P : List Pt) : sumC (TT s e G) P + sumC (TT e s G) P = sumC G P := by
  cases P with
  | nil => simp only [sumC]; grind
  | cons a r =>
    have := sumP_both hG hs (r ++ [a]) a
    rw [lastP_snoc] at this
    simp only [sumC]
    grind
/-- few corners -/
theorem sumC_few (hG : Add G) {P : List Pt} (h : P.length ≤ 2) : sumC G P = 0 := by
  match P, h with
  | [], _ => rfl
  | [a], _ => simp only [sumC, List.nil_append, sumP, hG.self]; grind
  | [a, b], _ =>
    simp only [sumC, List.cons_append, List.nil_append, sumP]
    have := hG.anti a b
    grind
  | _ :: _ :: _ :: _, h => simp at h
def filt (P : List Pt) : List Pt := if 2 < P.length then P else []
theorem filt_sum (hG : Add G) (P : List Pt) : sumC G (filt P) = sumC G P := by
  unfold filt
  split
  · rfl
  · rw [sumC_few hG (by omega : P.length ≤ 2)]; rfl
end

/-! ### one cut behind the other -/
abbrev Side := Pt × Pt
def clipAll : List Side → List Pt → List Pt
  | [], P => P
  | h :: S, P => clipAll S (clip h.1 h.2 P)
def leftOf (h : Side) (P : List Pt) : List Pt := filt (clip h.1 h.2 P)
def leftAll : List Side → List Pt → List Pt
  | [], P => P
  | h :: S, P => leftAll S (leftOf h P)
def TS : List Side → Fun2 → Fun2
  | [], G => G
  | h :: S, G => TT h.1 h.2 (TS S G)
def Ok (S : List Side) : Prop := ∀ h ∈ S, h.1 ≠ h.2
theorem TS_add {G : Fun2} (hG : Add G) : ∀ {S : List Side}, Ok S → Add (TS S G)
  | [], _ => hG
  | h :: S, ok => TT_add (TS_add hG fun x hx => ok x (List.mem_cons_of_mem _ hx)) (ok h (List.mem_cons_self ..))
theorem TS_app (G : Fun2) : ∀ (S T : List Side), TS (S ++ T) G = TS S (TS T G)
  | [], _ => rfl
  | h :: S, T => by simp only [List.cons_append, TS, TS_app G S T]
theorem clipAll_sum {G : Fun2} (hG : Add G) : ∀ {S : List Side}, Ok S → ∀ P, sumC G (clipAll S P) = sumC (TS S G) P
  | [], _, P => rfl
  | h :: S, ok, P => by
    have ok' : Ok S := fun x hx => ok x (List.mem_cons_of_mem _ hx)
    simp only [clipAll, TS]
    rw [clipAll_sum hG ok', clip_sum (TS_add hG ok') (ok h (List.mem_cons_self ..))]
theorem leftOf_sum {G : Fun2} (hG : Add G) {h : Side} (hn : h.1 ≠ h.2) (P : List Pt) : sumC G (leftOf h P) = sumC (TT h.1 h.2 G) P := by
  unfold leftOf
  rw [filt_sum hG, clip_sum hG hn]
theorem leftAll_sum {G : Fun2} (hG : Add G) : ∀ {S : List Side}, Ok S → ∀ P, sumC G (leftAll S P) = sumC (TS S G) P
  | [], _, P => rfl
  | h :: S, ok, P => by
    have ok' : Ok S := fun x hx => ok x (List.mem_cons_of_mem _ hx)
    simp only [leftAll, TS]
    rw [leftAll_sum hG ok', leftOf_sum (TS_add hG ok') (ok h (List.mem_cons_self ..))]
/-- the pieces cut off by the sides, one behind the other -/
def cutLoop : List Side → List Pt → List (List Pt)
  | [], _ => []
  | h :: S, R => (if (leftOf (h.2, h.1) R).isEmpty then [] else [leftOf (h.2, h.1) R]) ++ cutLoop S (leftOf h R)
def cutOut (S : List Side) (P : List Pt) : List (List Pt) := if (leftAll S P).isEmpty then [P] else cutLoop S P
def tot (G : Fun2) : List (List Pt) → Rat
  | [] => 0
  | P :: r => sumC G P + tot G r
theorem tot_app (G : Fun2) : ∀ (a b : List (List Pt)), tot G (a ++ b) = tot G a + tot G b
  | [], b => by simp only [List.nil_append, tot]; grind
  | P :: a, b => by simp only [List.cons_append, tot, tot_app G a b]; grind
theorem cutLoop_sum {G : Fun2} (hG : Add G) : ∀ {S : List Side}, Ok S → ∀ R, tot G (cutLoop S R) + sumC G (leftAll S R) = sumC G R
  | [], _, R => by simp only [cutLoop, tot, leftAll]; grind
  | h :: S, ok, R => by
    have hn := ok h (List.mem_cons_self ..)
    have ih := cutLoop_sum hG (S := S) (fun x hx => ok x (List.mem_cons_of_mem _ hx)) (leftOf h R)
    have h1 := leftOf_sum hG hn R
    have h2 := leftOf_sum hG (h := (h.2, h.1)) (fun z => hn z.symm) R
    have h3 := sumC_both hG hn R
    simp only [cutLoop, leftAll, tot_app]
    have h4 : tot G (if (leftOf (h.2, h.1) R).isEmpty then [] else [leftOf (h.2, h.1) R]) = sumC G (leftOf (h.2, h.1) R) := by
      cases e : leftOf (h.2, h.1) R with
      | nil => rfl
      | cons x r => simp only [List.isEmpty_cons, Bool.false_eq_true, if_false, tot]; grind
    rw [h4]
    simp only at h2
    grind
theorem cutOut_sum {G : Fun2} (hG : Add G) {S : List Side} (ok : Ok S) (P : List Pt) : tot G (cutOut S P) = sumC G P - sumC (TS S G) P := by
  have h1 := leftAll_sum hG ok P
  unfold cutOut
  split
  · rename_i h
    have h0 : leftAll S P = [] := by simpa using h
    rw [h0] at h1
    have h1 : 0 = sumC (TS S G) P := h1
    simp only [tot]
    grind
  · have := cutLoop_sum hG ok P
    grind
def cutAll (S : List Side) : List (List Pt) → List (List Pt)
  | [] => []
  | P :: r => cutOut S P ++ cutAll S r
theorem cutAll_sum {G : Fun2} (hG : Add G) {S : List Side} (ok : Ok S) : ∀ Ps, tot G (cutAll S Ps) = tot G Ps - tot (TS S G) Ps
  | [] => by simp only [cutAll, tot]; grind
  | P :: r => by
    simp only [cutAll, tot_app, tot, cutOut_sum hG ok, cutAll_sum hG ok r]
    grind
def cutMany : List (List Side) → List (List Pt) → List (List Pt)
  | [], Ps => Ps
  | S :: r, Ps => cutMany r (cutAll S Ps)
/-! ### areas -/
def area (a b : Pt) : Rat := a.1 * b.2 - b.1 * a.2
theorem area_add : Add area := fun a b c h => by unfold turn at h; unfold area; grind
def fan (p : Pt) : List Pt → Rat
  | [] => 0
  | [_] => 0
  | a :: b :: r => turn p a b + fan p (b :: r)
/-- twice the area -/
def twice : List Pt → Rat
  | [] => 0
  | p :: r => fan p r
theorem fan_sum (p : Pt) : ∀ (r : List Pt) (a : Pt), fan p (a :: r) = sumP area a (r ++ [p]) + area p a
  | [], a => by simp only [fan, List.nil_append, sumP]; unfold area; grind
  | b :: r, a => by
    simp only [fan, List.cons_append, sumP, fan_sum p r b]
    unfold turn area
    grind
theorem twice_sum (P : List Pt) : twice P = sumC area P := by
  match P with
  | [] => rfl
  | [p] => simp only [twice, fan, sumC, List.nil_append, sumP]; unfold area; grind
  | p :: a :: r =>
    simp only [twice, fan_sum, sumC, List.cons_append, sumP]
    grind
/-- turned round by one -/
theorem sumC_rot (G : Fun2) (a : Pt) (r : List Pt) : sumC G (r ++ [a]) = sumC G (a :: r) := by
  cases r with
  | nil => rfl
  | cons b r =>
    simp only [sumC, List.cons_append]
    rw [show r ++ [a] ++ [b] = (r ++ [a]) ++ [b] from rfl, sumP_app]
    simp only [sumP, lastP_snoc]
    grind
theorem cut_two {S T : List Side} (hS : Ok S) (hT : Ok T) (P : List Pt) :
    tot area (cutMany [S, T] [P]) = twice P - twice (clipAll S P) - twice (clipAll T P) + twice (clipAll (S ++ T) P) := by
  have ok : Ok (S ++ T) := fun h hh => (List.mem_append.mp hh).elim (hS h) (hT h)
  simp only [cutMany, twice_sum, clipAll_sum area_add hS, clipAll_sum area_add hT, clipAll_sum area_add ok, TS_app]
  rw [cutAll_sum area_add hT, cutAll_sum area_add hS, cutAll_sum (TS_add area_add hT) hS]
  simp only [tot]
  grind
theorem cut_one {S : List Side} (hS : Ok S) (P : List Pt) : tot area (cutMany [S] [P]) = twice P - twice (clipAll S P) := by
  simp only [cutMany, twice_sum, clipAll_sum area_add hS]
  rw [cutAll_sum area_add hS]
  simp only [tot]
  grind
/-! ### what lies inside stays -/
theorem clipP_in {s e : Pt} : ∀ {bs : List Pt} {a : Pt}, 0 ≤ turn s e a → (∀ x ∈ bs, 0 ≤ turn s e x) → clipP s e a bs = (a :: bs).dropLast
  | [], a, _, _ => rfl
  | b :: bs, a, ha, h => by
    have hb := h b (List.mem_cons_self ..)
    have hc : ¬ turn s e a * turn s e b < 0 := by have := Rat.mul_nonneg ha hb; grind
    simp only [clipP, outE, ha, hc, if_true, if_false, List.append_nil, List.cons_append, List.nil_append]
    rw [clipP_in hb fun x hx => h x (List.mem_cons_of_mem _ hx)]
    rfl
theorem clip_in {s e : Pt} {P : List Pt} (h : ∀ x ∈ P, 0 ≤ turn s e x) : clip s e P = P := by
  cases P with
  | nil => rfl
  | cons a r =>
    have := clipP_in (s := s) (e := e) (bs := r ++ [a]) (a := a) (h a (List.mem_cons_self ..)) fun x hx => by
      rcases List.mem_append.mp hx with hx | hx
      · exact h x (List.mem_cons_of_mem _ hx)
      · simp at hx; rw [hx]; exact h a (List.mem_cons_self ..)
    show clipP s e a (r ++ [a]) = a :: r
    rw [this, ← List.cons_append, List.dropLast_concat]
theorem clipAll_in : ∀ {S : List Side} {P : List Pt}, (∀ h ∈ S, ∀ x ∈ P, 0 ≤ turn h.1 h.2 x) → clipAll S P = P
  | [], P, _ => rfl
  | h :: S, P, hh => by
    simp only [clipAll]
    rw [clip_in (hh h (List.mem_cons_self ..))]
    exact clipAll_in fun x hx => hh x (List.mem_cons_of_mem _ hx)
/-- what is so on both ends, and between, is so behind a cut -/
def Conv (C : Pt → Prop) : Prop := ∀ a b : Pt, C a → C b → ∀ k : Rat, 0 ≤ k → k ≤ 1 → C (a.1 + k * (b.1 - a.1), a.2 + k * (b.2 - a.2))
theorem div_bounds {p d : Rat} (hd : 0 < d) (h0 : 0 ≤ p) (h1 : p ≤ d) : 0 ≤ p / d ∧ p / d ≤ 1 := by
  have hn : d ≠ 0 := by grind
  have e : p / d * d = p := by grind
  generalize p / d = k at *
  constructor
  · by_cases z : 0 ≤ k
    · exact z
    · have := Rat.mul_pos (a := -k) (b := d) (by grind) hd
      grind
  · by_cases z : k ≤ 1
    · exact z
    · have := Rat.mul_pos (a := k - 1) (b := d) (by grind) hd
      grind
theorem part_in {p q : Rat} (h : p * q < 0) : 0 ≤ p / (p - q) ∧ p / (p - q) ≤ 1 := by
  have h0 : p ≠ 0 := fun z => by rw [z] at h; grind
  rcases tri p 0 with hp | hp | hp
  · have hq : 0 < q := by
      rcases Rat.le_total (a := q) (b := 0) with h1 | h1
      · have := mul_nn (x := p) (y := q) (by grind) h1
        grind
      · by_cases z : q = 0
        · rw [z] at h; grind
        · grind
    have e : p / (p - q) = (-p) / (q - p) := by grind
    rw [e]
    have hd : 0 < q - p := by grind
    exact div_bounds hd (by grind) (by grind)
  · exact absurd hp h0
  · have hq : q < 0 := by
      rcases Rat.le_total (a := 0) (b := q) with h1 | h1
      · have := Rat.mul_nonneg (a := p) (b := q) (by grind) h1
        grind
      · by_cases z : q = 0
        · rw [z] at h; grind
        · grind
    have hd : 0 < p - q := by grind
    exact div_bounds hd (by grind) (by grind)
theorem cross_conv {C : Pt → Prop} (hC : Conv C) {a b : Pt} (ha : C a) (hb : C b) {p q : Rat} (h : p * q < 0) : C (crossP a b p q) := by
  obtain ⟨h1, h2⟩ := part_in h
  exact hC a b ha hb _ h1 h2
theorem clipP_conv {C : Pt → Prop} (hC : Conv C) {s e : Pt} : ∀ {bs : List Pt} {a : Pt}, C a → (∀ x ∈ bs, C x) → ∀ x ∈ clipP s e a bs, C x
  | [], a, _, _, x, hx => nomatch hx
  | b :: bs, a, ha, h, x, hx => by
    have hb := h b (List.mem_cons_self ..)
    simp only [clipP, outE] at hx
    rcases List.mem_append.mp hx with hx | hx
    · rcases List.mem_append.mp hx with hx | hx
      · split at hx
        · simp at hx; subst hx; exact ha
        · cases hx
      · split at hx
        · rename_i hc
          simp at hx; subst hx
          exact cross_conv hC ha hb hc
        · cases hx
    · exact clipP_conv hC hb (fun y hy => h y (List.mem_cons_of_mem _ hy)) x hx
theorem clip_conv {C : Pt → Prop} (hC : Conv C) {s e : Pt} {P : List Pt} (h : ∀ x ∈ P, C x) : ∀ x ∈ clip s e P, C x := by
  cases P with
  | nil => intro x hx; cases hx
  | cons a r =>
    refine clipP_conv hC (h a (List.mem_cons_self ..)) fun x hx => ?_
    rcases List.mem_append.mp hx with hx | hx
    · exact h x (List.mem_cons_of_mem _ hx)
    · simp at hx; rw [hx]; exact h a (List.mem_cons_self ..)
theorem filt_mem {P : List Pt} {x : Pt} (h : x ∈ filt P) : x ∈ P := by
  unfold filt at h
  split at h
  · exact h
  · cases h
theorem leftOf_conv {C : Pt → Prop} (hC : Conv C) {h : Side} {P : List Pt} (hP : ∀ x ∈ P, C x) : ∀ x ∈ leftOf h P, C x := fun x hx => clip_conv hC hP x (filt_mem hx)
theorem cutLoop_conv {C : Pt → Prop} (hC : Conv C) : ∀ {S : List Side} {R : List Pt}, (∀ x ∈ R, C x) → ∀ Q ∈ cutLoop S R, ∀ x ∈ Q, C x
  | [], R, _, Q, hQ => by cases hQ
  | h :: S, R, hR, Q, hQ => by
    simp only [cutLoop] at hQ
    rcases List.mem_append.mp hQ with hQ | hQ
    · split at hQ
      · cases hQ
      · simp at hQ; subst hQ; exact leftOf_conv hC hR
    · exact cutLoop_conv hC (leftOf_conv hC hR) Q hQ
theorem cutOut_conv {C : Pt → Prop} (hC : Conv C) {S : List Side} {P : List Pt} (hP : ∀ x ∈ P, C x) : ∀ Q ∈ cutOut S P, ∀ x ∈ Q, C x := by
  unfold cutOut
  split
  · intro Q hQ; simp at hQ; subst hQ; exact hP
  · exact cutLoop_conv hC hP
theorem cutAll_conv {C : Pt → Prop} (hC : Conv C) {S : List Side} : ∀ {Ps : List (List Pt)}, (∀ Q ∈ Ps, ∀ x ∈ Q, C x) → ∀ Q ∈ cutAll S Ps, ∀ x ∈ Q, C x
  | [], _, Q, hQ => by cases hQ
  | P :: r, h, Q, hQ => by
    simp only [cutAll] at hQ
    rcases List.mem_append.mp hQ with hQ | hQ
    · exact cutOut_conv hC (h P (List.mem_cons_self ..)) Q hQ
    · exact cutAll_conv hC (fun Q' h' => h Q' (List.mem_cons_of_mem _ h')) Q hQ
theorem cutMany_conv {C : Pt → Prop} (hC : Conv C) : ∀ {L : List (List Side)} {Ps : List (List Pt)}, (∀ Q ∈ Ps, ∀ x ∈ Q, C x) → ∀ Q ∈ cutMany L Ps, ∀ x ∈ Q, C x
  | [], _, h => h
  | S :: r, _, h => fun Q hQ => cutMany_conv (L := r) hC (cutAll_conv (S := S) hC h) Q hQ
theorem left_conv (s e : Pt) : Conv fun x => 0 ≤ turn s e x := fun a b ha hb k h0 h1 => by
  have e1 : turn s e (a.1 + k * (b.1 - a.1), a.2 + k * (b.2 - a.2)) = (1 - k) * turn s e a + k * turn s e b := by unfold turn; grind
  show 0 ≤ turn s e _
  rw [e1]
  have h2 := Rat.mul_nonneg (a := 1 - k) (b := turn s e a) (by grind) ha
  have h3 := Rat.mul_nonneg (a := k) (b := turn s e b) h0 hb
  grind
theorem cutMany_app : ∀ (L M : List (List Side)) (Ps : List (List Pt)), cutMany (L ++ M) Ps = cutMany M (cutMany L Ps)
  | [], _, _ => rfl
  | S :: L, M, Ps => by simp only [List.cons_append, cutMany, cutMany_app L M]
theorem tot_in {S : List Side} (hS : Ok S) : ∀ {Ps : List (List Pt)}, (∀ Q ∈ Ps, ∀ h ∈ S, ∀ x ∈ Q, 0 ≤ turn h.1 h.2 x) → tot (TS S area) Ps = tot area Ps
  | [], _ => rfl
  | P :: r, h => by
    simp only [tot, tot_in hS fun Q hQ => h Q (List.mem_cons_of_mem _ hQ)]
    rw [← clipAll_sum area_add hS, clipAll_in (h P (List.mem_cons_self ..))]
/-- with the polygon itself among the others nothing is left -/
theorem cut_self {S : List Side} (hS : Ok S) {L : List (List Side)} {P : List Pt} (h : ∀ h ∈ S, ∀ x ∈ P, 0 ≤ turn h.1 h.2 x) : tot area (cutMany (L ++ [S]) [P]) = 0 := by
  rw [cutMany_app]
  simp only [cutMany]
  rw [cutAll_sum area_add hS, tot_in hS fun Q hQ hh h1 x hx => cutMany_conv (left_conv hh.1 hh.2) (fun Q' hQ' y hy => ?_) Q hQ x hx]
  · grind
  · simp at hQ'
    subst hQ'
    exact h hh h1 y hy
/-- both sides of a cut -/
theorem both_sides {h : Side} (hn : h.1 ≠ h.2) (P : List Pt) : twice (leftOf h P) + twice (leftOf (h.2, h.1) P) = twice P := by
  simp only [twice_sum]
  rw [leftOf_sum area_add hn, leftOf_sum area_add (h := (h.2, h.1)) fun z => hn z.symm]
  exact sumC_both area_add hn P
theorem left_twice {h : Side} (hn : h.1 ≠ h.2) (P : List Pt) : twice (leftOf h P) = twice (clip h.1 h.2 P) := by
  simp only [twice_sum]
  exact filt_sum area_add _
/-- all corners are on that side -/
theorem clip_left {s e : Pt} : ∀ {bs : List Pt} {a : Pt}, ∀ x ∈ clipP s e a bs, 0 ≤ turn s e x
  | [], a, x, hx => by cases hx
  | b :: bs, a, x, hx => by
    simp only [clipP, outE] at hx
    rcases List.mem_append.mp hx with hx | hx
    · rcases List.mem_append.mp hx with hx | hx
      · split at hx
        · simp at hx; subst hx; assumption
        · cases hx
      · split at hx
        · rename_i hc
          simp at hx; subst hx
          rw [cross_on (cross_neg hc)]
          grind
        · cases hx
    · exact clip_left x hx
theorem leftOf_left {h : Side} {P : List Pt} : ∀ x ∈ leftOf h P, 0 ≤ turn h.1 h.2 x := fun x hx => by
  have := filt_mem hx
  cases P with
  | nil => cases this
  | cons a r => exact clip_left x this
end K66

/-! The hull -/
namespace K66

def lt (a b : Pt) : Prop := a.1 < b.1 ∨ (a.1 = b.1 ∧ a.2 < b.2)
instance (a b : Pt) : Decidable (lt a b) := by unfold lt; infer_instance
theorem lt_irr (a : Pt) : ¬ lt a a := by unfold lt; grind
theorem lt_tr {a b c : Pt} (h : lt a b) (g : lt b c) : lt a c := by unfold lt at *; grind
theorem lt_asym {a b : Pt} (h : lt a b) : ¬ lt b a := by unfold lt at *; grind
theorem lt_tri (a b : Pt) : lt a b ∨ a = b ∨ lt b a := by
  rcases a with ⟨a1, a2⟩
  rcases b with ⟨b1, b2⟩
  simp only [lt, Prod.mk.injEq]
  grind
def ng (a : Pt) : Pt := (-a.1, -a.2)
theorem ng_ng (a : Pt) : ng (ng a) = a := by unfold ng; ext <;> simp
theorem lt_ng {a b : Pt} : lt (ng a) (ng b) ↔ lt b a := by unfold lt ng; grind
theorem turn_ng (a b c : Pt) : turn (ng a) (ng b) (ng c) = turn a b c := by unfold turn ng; grind
/-! ### angles -/
def lp (x y : Rat) : Prop := 0 < x ∨ (x = 0 ∧ 0 < y)
theorem mul_pos_of {x y : Rat} (hx : 0 < x) (h : 0 ≤ x * y) : 0 ≤ y := by
  by_cases z : 0 ≤ y
  · exact z
  · have := mul_neg_of (x := y) (y := x) (by grind) hx
    grind
theorem mul_pos_of' {x y : Rat} (hx : 0 < x) (h : 0 < x * y) : 0 < y := by
  by_cases z : 0 < y
  · exact z
  · have := mul_nn (x := -x) (y := y) (by grind) (by grind)
    grind
theorem ang {u1 u2 v1 v2 w1 w2 : Rat} (hu : lp u1 u2) (hv : lp v1 v2) (hw : lp w1 w2) (h1 : 0 ≤ u1 * v2 - u2 * v1) (h2 : 0 ≤ v1 * w2 - v2 * w1) :
    0 ≤ u1 * w2 - u2 * w1 ∧ ((0 < u1 * v2 - u2 * v1 ∨ 0 < v1 * w2 - v2 * w1) → 0 < u1 * w2 - u2 * w1) := by
  have nu : 0 ≤ u1 := by unfold lp at hu; grind
  have nw : 0 ≤ w1 := by unfold lp at hw; grind
  rcases hv with hv | ⟨hv, hv2⟩
  · have id : v1 * (u1 * w2 - u2 * w1) = u1 * (v1 * w2 - v2 * w1) + w1 * (u1 * v2 - u2 * v1) := by grind
    have a1 := Rat.mul_nonneg nu h2
    have a2 := Rat.mul_nonneg nw h1
    refine ⟨mul_pos_of hv (by rw [id]; grind), fun hs => mul_pos_of' hv ?_⟩
    rw [id]
    have up : 0 < u1 := by
      rcases hu with hu | ⟨hu, hu2⟩
      · exact hu
      · have := Rat.mul_pos hu2 hv
        rw [hu] at h1
        grind
    have key : 0 < v1 * w2 - v2 * w1 → 0 < u1 * (v1 * w2 - v2 * w1) + w1 * (u1 * v2 - u2 * v1) := fun h => by
      have := Rat.mul_pos up h
      grind
    rcases hs with hs | hs
    · rcases hw with hw | ⟨hw, hw2⟩
      · have := Rat.mul_pos hw hs
        grind
      · refine key ?_
        have := Rat.mul_pos hv hw2
        rw [hw]
        grind
    · exact key hs
  · have w0 : w1 = 0 := by
      rcases hw with hw | ⟨hw, _⟩
      · have := Rat.mul_pos hv2 hw
        rw [hv] at h2
        grind
      · exact hw
    have w2p : 0 < w2 := by unfold lp at hw; grind
    subst w0
    subst hv
    have := Rat.mul_nonneg nu (show 0 ≤ w2 by grind)
    refine ⟨by grind, fun hs => ?_⟩
    rcases hs with hs | hs
    · have : 0 < u1 := by
        refine mul_pos_of' hv2 ?_
        grind
      have := Rat.mul_pos this w2p
      grind
    · grind
theorem lp_of {a b : Pt} (h : lt a b) : lp (b.1 - a.1) (b.2 - a.2) := by unfold lt at h; unfold lp; grind
/-- one more to the left -/
theorem conv_step {a b c d : Pt} (h1 : lt a b) (h2 : lt b c) (h3 : lt c d) (t1 : 0 < turn a b c) (t2 : 0 < turn b c d) : 0 < turn a b d := by
  have := (ang (lp_of h1) (lp_of h2) (lp_of h3) (by unfold turn at t1; grind) (by unfold turn at t2; grind)).1
  unfold turn at *
  grind
/-! ### the stack of a chain, its top first -/
def popT (p : Pt) : List Pt → List Pt
  | b :: a :: r => if turn a b p ≤ 0 then popT p (a :: r) else b :: a :: r
  | l => l
def chainS : List Pt → List Pt → List Pt
  | [], st => st
  | p :: r, st => chainS r (p :: popT p st)
def edge (u v q : Pt) : Prop := 0 ≤ turn u v q ∧ (turn u v q = 0 → ¬ lt q u ∧ ¬ lt v q)
inductive Stk (D : List Pt) : List Pt → Prop
  | one {p : Pt} : p ∈ D → (∀ q ∈ D, ¬ lt q p) → Stk D [p]
  | cons {u v : Pt} {r : List Pt} : Stk D (u :: r) → v ∈ D → lt u v → (∀ q ∈ D, edge u v q) → (∀ w l, r = w :: l → 0 < turn w u v) → Stk D (v :: u :: r)
theorem Stk.mem {D : List Pt} : ∀ {st : List Pt}, Stk D st → ∀ x ∈ st, x ∈ D
  | _, .one h _, x, hx => by simp at hx; rw [hx]; exact h
  | _, .cons s h _ _ _, x, hx => by
    rcases List.mem_cons.mp hx with rfl | hx
    · exact h
    · exact s.mem x hx
theorem Stk.under {D : List Pt} : ∀ {s : Pt} {r : List Pt}, Stk D (s :: r) → (r = [] ∧ ∀ q ∈ D, ¬ lt q s) ∨ ∃ w l, r = w :: l ∧ lt w s ∧ (∀ q ∈ D, edge w s q) ∧ (∀ x l', l = x :: l' → 0 < turn x w s) ∧ Stk D (w :: l) ∧ s ∈ D
  | _, _, .one _ h => .inl ⟨rfl, h⟩
  | _, _, .cons st h hl he hs => .inr ⟨_, _, rfl, hl, he, hs, st, h⟩
/-- a new greatest point, seen from the rest of the stack -/
theorem Stk.more {D : List Pt} {p : Pt} (hp : ∀ q ∈ D, lt q p) : ∀ {s : Pt} {r : List Pt}, Stk D (s :: r) → (∀ w l, r = w :: l → 0 < turn w s p) → Stk (p :: D) (s :: r)
  | s, _, .one h hl, _ => .one (List.mem_cons_of_mem _ h) fun q hq => by
    rcases List.mem_cons.mp hq with rfl | hq
    · exact lt_asym (hp s h)
    · exact hl q hq
  | v, _, .cons (u := u) (r := r) st h huv he hs, ht => by
    have hup := hp u (st.mem u (List.mem_cons_self ..))
    have htp := ht u r rfl
    refine .cons (st.more hp fun w l e => ?_) (List.mem_cons_of_mem _ h) huv (fun q hq => ?_) hs
    · have hw : lt w u := by
        subst e
        cases st with
        | cons _ _ h _ _ => exact h
      exact conv_step hw huv (hp v h) (hs w l e) htp
    · rcases List.mem_cons.mp hq with rfl | hq
      · exact ⟨by grind, fun z => by grind⟩
      · exact he q hq
/-- what is left when the top is taken off -/
theorem pop_ok {D : List Pt} {p : Pt} (hp : ∀ q ∈ D, lt q p) : ∀ {st : List Pt} {s : Pt} {r : List Pt}, st = s :: r → Stk D st → (∀ q ∈ D, lt s q → 0 ≤ turn s p q) →
    ∃ s' r', popT p st = s' :: r' ∧ Stk D (s' :: r') ∧ (∀ w l, r' = w :: l → 0 < turn w s' p) ∧ (∀ q ∈ D, lt s' q → 0 ≤ turn s' p q) ∧ ∀ l, (s :: r).getLast? = l → (s' :: r').getLast? = l
  | _, s, [], rfl, st, hq => ⟨s, [], rfl, st, fun _ _ z => (nomatch z), hq, fun _ e => e⟩
  | _, b, a :: r, rfl, st, hq => by
    by_cases h : turn a b p ≤ 0
    · cases st with
      | cons st hb hab he hs =>
        have hpa := hp a (st.mem a (List.mem_cons_self ..))
        obtain ⟨s', r', e1, e2, e3, e4, e5⟩ := pop_ok hp rfl st fun q hqD hlt => by
          have h1 := (he q hqD).1
          have := (ang (lp_of hpa) (lp_of hab) (lp_of hlt) (by unfold turn at h; grind) (by unfold turn at h1; grind)).1
          unfold turn
          grind
        refine ⟨s', r', ?_, e2, e3, e4, fun l el => e5 l ?_⟩
        · simp only [popT, h, if_true]; exact e1
        · rw [← el]; simp
    · refine ⟨b, a :: r, ?_, st, fun w l e => ?_, hq, fun _ e => e⟩
      · simp only [popT, h, if_false]
      · cases e; grind
theorem push_ok {D : List Pt} {p : Pt} (hp : ∀ q ∈ D, lt q p) {s : Pt} {r : List Pt} (st : Stk D (s :: r)) (hs : ∀ q ∈ D, ¬ lt s q) :
    Stk (p :: D) (p :: popT p (s :: r)) ∧ (p :: popT p (s :: r)).getLast? = (s :: r).getLast? := by
  obtain ⟨s', r', e1, e2, e3, e4, e5⟩ := pop_ok hp rfl st fun q hq h => absurd h (hs q hq)
  have hsp := hp s' (e2.mem s' (List.mem_cons_self ..))
  rw [e1]
  refine ⟨.cons (e2.more hp e3) (List.mem_cons_self ..) hsp (fun q hq => ?_) e3, by rw [← e5 _ rfl]; simp⟩
  rcases List.mem_cons.mp hq with rfl | hq
  · exact ⟨by rw [turn_abb]; grind, fun _ => ⟨lt_asym hsp, lt_irr _⟩⟩
  · have hqp := hp q hq
    rcases lt_tri q s' with h | h | h
    · have : 0 < turn s' p q := by
        rcases e2.under with ⟨_, hl⟩ | ⟨w, l, el, hws, he, _⟩
        · exact absurd h (hl q hq)
        · have h1 := (he q hq).1
          have h2 := e3 w l el
          have := (ang (lp_of h) (lp_of hws) (lp_of hsp) (by unfold turn at h1; grind) (by unfold turn at h2; grind)).2 (.inr (by unfold turn at h2; grind))
          unfold turn
          grind
      exact ⟨by grind, fun z => by grind⟩
    · subst h
      exact ⟨by rw [turn_aba]; grind, fun _ => ⟨lt_irr _, lt_asym hqp⟩⟩
    · exact ⟨e4 q hq h, fun _ => ⟨lt_asym h, lt_asym hqp⟩⟩
/-- points in order -/
def Srt : List Pt → Prop
  | [] => True
  | a :: r => (∀ q ∈ r, lt a q) ∧ Srt r
theorem chain_ok : ∀ (l : List Pt) {D : List Pt} {s : Pt} {r : List Pt}, Srt l → (∀ p ∈ l, ∀ q ∈ D, lt q p) → Stk D (s :: r) → (∀ q ∈ D, ¬ lt s q) →
    ∃ s' r', chainS l (s :: r) = s' :: r' ∧ Stk (l.reverse ++ D) (s' :: r') ∧ s' = lastP s l ∧ (s' :: r').getLast? = (s :: r).getLast?
  | [], D, s, r, _, _, st, _ => ⟨s, r, rfl, by simpa using st, rfl, rfl⟩
  | p :: l, D, s, r, hs, hl, st, htop => by
    have hp := hl p (List.mem_cons_self ..)
    obtain ⟨a1, a2⟩ := push_ok hp st htop
    obtain ⟨s', r', e1, e2, e3, e4⟩ := chain_ok l (D := p :: D) hs.2 (fun p' hp' q hq => by
      rcases List.mem_cons.mp hq with rfl | hq
      · exact hs.1 p' hp'
      · exact hl p' (List.mem_cons_of_mem _ hp') q hq) a1 (fun q hq => by
      rcases List.mem_cons.mp hq with rfl | hq
      · exact lt_irr _
      · exact lt_asym (hp q hq))
    refine ⟨s', r', e1, by simpa using e2, e3, by rw [e4, a2]⟩
/-- the stack over all of a row in order -/
theorem chain_all {p : Pt} {l : List Pt} (h : Srt (p :: l)) : ∃ r, chainS (p :: l) [] = lastP p l :: r ∧ Stk (p :: l) (lastP p l :: r) ∧ (lastP p l :: r).getLast? = some p := by
  obtain ⟨s', r', e1, e2, e3, e4⟩ := chain_ok l (D := [p]) (s := p) (r := []) h.2 (fun q hq x hx => by simp at hx; rw [hx]; exact h.1 q hq) (.one (List.mem_cons_self ..) fun q hq => by simp at hq; rw [hq]; exact lt_irr _) (fun q hq => by simp at hq; rw [hq]; exact lt_irr _)
  subst e3
  refine ⟨r', e1, ?_, by rw [e4]; rfl⟩
  have conv : ∀ {D D' : List Pt} {st : List Pt}, (∀ x, x ∈ D ↔ x ∈ D') → Stk D st → Stk D' st := by
    intro D D' st hd s
    induction s with
    | one a b => exact .one ((hd _).mp a) fun q hq => b q ((hd _).mpr hq)
    | cons _ a b c d ih => exact .cons ih ((hd _).mp a) b (fun q hq => c q ((hd _).mpr hq)) d
  refine conv (fun x => ?_) e2
  simp [or_comm]

/-! ### sides -/
def bet (a b c : Pt) : Prop := (¬ (c.1 < a.1 ∧ c.1 < b.1) ∧ ¬ (a.1 < c.1 ∧ b.1 < c.1)) ∧ ¬ (c.2 < a.2 ∧ c.2 < b.2) ∧ ¬ (a.2 < c.2 ∧ b.2 < c.2)
def isSide (pts : List Pt) (a b : Pt) : Prop := ∀ c ∈ pts, 0 ≤ turn a b c ∧ (turn a b c = 0 → bet a b c)
theorem bet_of {u v q : Pt} (h : lt u v) (ht : turn u v q = 0) (h1 : ¬ lt q u) (h2 : ¬ lt v q) : bet u v q := by
  have hx1 : u.1 ≤ q.1 := by unfold lt at h1; grind
  have hx2 : q.1 ≤ v.1 := by unfold lt at h2; grind
  refine ⟨⟨by grind, by grind⟩, ?_⟩
  by_cases e : u.1 = v.1
  · have e1 : q.1 = u.1 := by grind
    have : u.2 ≤ q.2 ∧ q.2 ≤ v.2 := by unfold lt at h1 h2; grind
    grind
  · have hp : 0 < v.1 - u.1 := by unfold lt at h; grind
    have i1 : (v.1 - u.1) * (q.2 - u.2) = (v.2 - u.2) * (q.1 - u.1) := by unfold turn at ht; grind
    have i2 : (v.1 - u.1) * (v.2 - q.2) = (v.2 - u.2) * (v.1 - q.1) := by unfold turn at ht; grind
    by_cases hv : u.2 ≤ v.2
    · have a1 := mul_pos_of hp (y := q.2 - u.2) (by rw [i1]; exact Rat.mul_nonneg (by grind) (by grind))
      have a2 := mul_pos_of hp (y := v.2 - q.2) (by rw [i2]; exact Rat.mul_nonneg (by grind) (by grind))
      grind
    · have a1 := mul_pos_of hp (y := u.2 - q.2) (by
        have : (v.1 - u.1) * (u.2 - q.2) = (u.2 - v.2) * (q.1 - u.1) := by grind
        rw [this]; exact Rat.mul_nonneg (by grind) (by grind))
      have a2 := mul_pos_of hp (y := q.2 - v.2) (by
        have : (v.1 - u.1) * (q.2 - v.2) = (u.2 - v.2) * (v.1 - q.1) := by grind
        rw [this]; exact Rat.mul_nonneg (by grind) (by grind))
      grind
theorem bet_ng {a b c : Pt} : bet (ng a) (ng b) (ng c) ↔ bet a b c := by unfold bet ng; grind
theorem side_uniq {pts : List Pt} {a b b' : Pt} (h : isSide pts a b) (h' : isSide pts a b') (hb : b ∈ pts) (hb' : b' ∈ pts) : b = b' := by
  have h1 := h b' hb'
  have h2 := h' b hb
  have e : turn a b' b = -turn a b b' := by unfold turn; grind
  have z : turn a b b' = 0 := by grind
  have b1 := h1.2 z
  have b2 := h2.2 (by grind)
  unfold bet at b1 b2
  exact Prod.ext (by grind) (by grind)
/-- along a list each pair of neighbours -/
def Ch (R : Pt → Pt → Prop) : List Pt → Prop
  | a :: b :: r => R a b ∧ Ch R (b :: r)
  | _ => True
theorem Ch.app {R : Pt → Pt → Prop} : ∀ {l : List Pt} {x : Pt} {m : List Pt}, Ch R (l ++ [x]) → Ch R (x :: m) → Ch R (l ++ x :: m)
  | [], _, _, _, h => h
  | [a], x, m, h, g => ⟨h.1, g⟩
  | a :: b :: l, x, m, h, g => ⟨h.1, Ch.app (l := b :: l) h.2 g⟩
theorem Ch.snoc {R : Pt → Pt → Prop} {l : List Pt} {x y : Pt} (h : Ch R (l ++ [x])) (g : R x y) : Ch R (l ++ [x] ++ [y]) := by
  rw [List.append_assoc]
  exact Ch.app h ⟨g, trivial⟩
theorem Ch.mono {R R' : Pt → Pt → Prop} (i : ∀ a b, R a b → R' a b) : ∀ {l : List Pt}, Ch R l → Ch R' l
  | [], _ => trivial
  | [_], _ => trivial
  | _ :: b :: r, h => ⟨i _ _ h.1, Ch.mono i (l := b :: r) h.2⟩
/-- the chain, from its beginning on -/
theorem Stk.ch {D : List Pt} : ∀ {st : List Pt}, Stk D st → Ch (fun u v => lt u v ∧ u ∈ D ∧ v ∈ D ∧ isSide D u v) st.reverse
  | _, .one _ _ => by simp [Ch]
  | _, .cons (u := u) (v := v) (r := r) s h hl he _ => by
    have ih := s.ch
    rw [List.reverse_cons] at ih ⊢
    rw [List.reverse_cons]
    exact ih.snoc ⟨hl, s.mem u (List.mem_cons_self ..), h, fun c hc => ⟨(he c hc).1, fun z => bet_of hl z ((he c hc).2 z).1 ((he c hc).2 z).2⟩⟩
theorem popT_ng (p : Pt) : ∀ (l : List Pt), popT (ng p) (l.map ng) = (popT p l).map ng
  | [] => rfl
  | [_] => rfl
  | b :: a :: r => by
    simp only [List.map_cons, popT, turn_ng]
    split
    · exact popT_ng p (a :: r)
    · rfl
theorem chainS_ng : ∀ (l st : List Pt), chainS (l.map ng) (st.map ng) = (chainS l st).map ng
  | [], _ => rfl
  | p :: l, st => by
    simp only [List.map_cons, chainS, popT_ng]
    exact chainS_ng l (p :: popT p st)
def chain (row : List Pt) : List Pt := (chainS row []).reverse
theorem map_ng_ng (l : List Pt) : (l.map ng).map ng = l := by
  rw [List.map_map]
  conv => rhs; rw [← List.map_id l]
  exact List.map_congr_left fun x _ => ng_ng x
theorem Ch.map {R R' : Pt → Pt → Prop} {f : Pt → Pt} (i : ∀ a b, R a b → R' (f a) (f b)) : ∀ {l : List Pt}, Ch R l → Ch R' (l.map f)
  | [], _ => trivial
  | [_], _ => trivial
  | _ :: b :: r, h => ⟨i _ _ h.1, Ch.map i (l := b :: r) h.2⟩
/-- the lower chain, and what its length tells -/
theorem chain_low {p : Pt} {l : List Pt} (h : Srt (p :: l)) : ∃ m, chain (p :: l) = p :: m ∧ lastP p m = lastP p l ∧ Ch (fun u v => lt u v ∧ u ∈ p :: l ∧ v ∈ p :: l ∧ isSide (p :: l) u v) (p :: m) ∧ (∀ x ∈ p :: m, x ∈ p :: l) ∧
    ((∀ a ∈ p :: l, ∀ b ∈ p :: l, ∀ c ∈ p :: l, turn a b c = 0) → m.length ≤ 1) := by
  obtain ⟨r, e1, e2, e3⟩ := chain_all h
  have hc := e2.ch
  unfold chain
  rw [e1]
  cases hrev : (lastP p l :: r).reverse with
  | nil => simp at hrev
  | cons x m =>
    have hx : x = p := by
      have : (lastP p l :: r).reverse.head? = some p := by rw [List.head?_reverse]; exact e3
      rw [hrev] at this
      simpa using this
    subst hx
    rw [hrev] at hc
    refine ⟨m, rfl, ?_, hc, fun y hy => e2.mem y ?_, fun hcol => ?_⟩
    · have hz : ∀ (m : List Pt) (a : Pt), (a :: m).getLast? = some (lastP a m) := fun m => by
        induction m with
        | nil => intro a; rfl
        | cons b m ih => intro a; rw [List.getLast?_cons_cons]; exact ih b
      have : (x :: m).getLast? = some (lastP x l) := by rw [← hrev, List.getLast?_reverse]; rfl
      rw [hz] at this
      exact Option.some.inj this
    · rw [← List.mem_reverse, hrev]; exact hy
    · have hl : (lastP x l :: r).length = m.length + 1 := by rw [← List.length_reverse, hrev]; rfl
      rcases e2.under with ⟨er, _⟩ | ⟨u, r2, er, _, _, hs, st, hv⟩
      · rw [er] at hl
        simp only [List.length_cons, List.length_nil] at hl
        omega
      · rw [er] at hl
        cases r2 with
        | nil => simp only [List.length_cons, List.length_nil] at hl; omega
        | cons w r3 =>
          have h1 := hs w r3 rfl
          have h2 := hcol w (st.mem w (by simp)) u (st.mem u (by simp)) _ hv
          rw [h2] at h1
          exact absurd h1 (by grind)
theorem srt_append : ∀ {l : List Pt} {x : Pt}, Srt l → (∀ q ∈ l, lt q x) → Srt (l ++ [x])
  | [], x, _, _ => ⟨fun _ h => (nomatch h), trivial⟩
  | a :: l, x, h, g => ⟨fun q hq => by
      rcases List.mem_append.mp hq with hq | hq
      · exact h.1 q hq
      · simp at hq; rw [hq]; exact g a (List.mem_cons_self ..), srt_append h.2 fun q hq => g q (List.mem_cons_of_mem _ hq)⟩
theorem srt_rev_ng : ∀ {l : List Pt}, Srt l → Srt (l.reverse.map ng)
  | [], _ => trivial
  | a :: l, h => by
    rw [List.reverse_cons, List.map_append]
    refine srt_append (srt_rev_ng h.2) fun q hq => ?_
    obtain ⟨y, hy, rfl⟩ := List.mem_map.mp hq
    exact lt_ng.mpr (h.1 y (List.mem_reverse.mp hy))
theorem lastP_eq : ∀ (l : List Pt) (a : Pt), (a :: l).getLast? = some (lastP a l)
  | [], _ => rfl
  | b :: l, a => by rw [List.getLast?_cons_cons]; exact lastP_eq l b
theorem lastP_map (f : Pt → Pt) : ∀ (l : List Pt) (a : Pt), lastP (f a) (l.map f) = f (lastP a l)
  | [], _ => rfl
  | b :: l, _ => lastP_map f l b
/-- the upper chain -/
theorem chain_up {p : Pt} {l : List Pt} (h : Srt (p :: l)) : ∃ m, chain (p :: l).reverse = lastP p l :: m ∧ lastP (lastP p l) m = p ∧ Ch (fun u v => lt v u ∧ u ∈ p :: l ∧ v ∈ p :: l ∧ isSide (p :: l) u v) (lastP p l :: m) ∧ (∀ x ∈ lastP p l :: m, x ∈ p :: l) ∧
    ((∀ a ∈ p :: l, ∀ b ∈ p :: l, ∀ c ∈ p :: l, turn a b c = 0) → m.length ≤ 1) := by
  have hs := srt_rev_ng h
  cases hrev : (p :: l).reverse with
  | nil => simp at hrev
  | cons x t =>
    have hx : x = lastP p l := by
      have : (p :: l).reverse.head? = some (lastP p l) := by rw [List.head?_reverse]; exact lastP_eq l p
      rw [hrev] at this
      simpa using this
    subst hx
    rw [hrev] at hs
    simp only [List.map_cons] at hs
    have hmem : ∀ y, y ∈ p :: l ↔ y ∈ lastP p l :: t := fun y => by rw [← hrev, List.mem_reverse]
    have hmem2 : ∀ y, y ∈ ng (lastP p l) :: t.map ng ↔ ng y ∈ p :: l := fun y => by
      rw [hmem, ← List.map_cons]
      constructor
      · intro hy
        obtain ⟨z, hz, rfl⟩ := List.mem_map.mp hy
        rw [ng_ng]; exact hz
      · intro hy
        exact List.mem_map.mpr ⟨ng y, hy, ng_ng y⟩
    have hlast : lastP (lastP p l) t = p := by
      have : (lastP p l :: t).getLast? = some p := by rw [← hrev, List.getLast?_reverse]; rfl
      rw [lastP_eq] at this
      exact Option.some.inj this
    obtain ⟨m, e1, e2, e3, e4, e5⟩ := chain_low hs
    have e1' : chain (lastP p l :: t) = lastP p l :: m.map ng := by
      have := chainS_ng (lastP p l :: t) []
      unfold chain at e1 ⊢
      simp only [List.map_cons, List.map_nil] at this
      rw [this, ← List.map_reverse] at e1
      have := congrArg (List.map ng) e1
      rw [map_ng_ng] at this
      rw [this]
      simp [ng_ng]
    refine ⟨m.map ng, e1', ?_, ?_, fun y hy => ?_, fun hc => ?_⟩
    · have h1 := lastP_map ng t (lastP p l)
      have h2 := lastP_map ng m (ng (lastP p l))
      rw [ng_ng, e2, h1, ng_ng, hlast] at h2
      exact h2
    · have := e3.map (f := ng) (R' := fun u v => lt v u ∧ u ∈ p :: l ∧ v ∈ p :: l ∧ isSide (p :: l) u v) fun a b hab => by
        obtain ⟨h1, h2, h3, h4⟩ := hab
        refine ⟨lt_ng.mpr h1, (hmem2 a).mp h2, (hmem2 b).mp h3, fun c hc => ?_⟩
        have := h4 (ng c) ((hmem2 (ng c)).mpr (by rw [ng_ng]; exact hc))
        rw [← turn_ng a b (ng c), ng_ng, ← bet_ng, ng_ng] at this
        exact this
      simpa [ng_ng] using this
    · have : ng y ∈ ng (lastP p l) :: m := by
        rcases List.mem_cons.mp hy with rfl | hy
        · exact List.mem_cons_self ..
        · obtain ⟨z, hz, rfl⟩ := List.mem_map.mp hy
          rw [ng_ng]; exact List.mem_cons_of_mem _ hz
      have := (hmem2 (ng y)).mp (e4 _ this)
      rwa [ng_ng] at this
    · rw [List.length_map]
      refine e5 fun a ha b hb c hcc => ?_
      have := hc (ng a) ((hmem2 a).mp ha) (ng b) ((hmem2 b).mp hb) (ng c) ((hmem2 c).mp hcc)
      rwa [turn_ng] at this
/-! ### the hull -/
theorem dropLast_mem {l : List Pt} {x : Pt} (h : x ∈ l.dropLast) : x ∈ l := (List.dropLast_sublist l).mem h
theorem Ch.succ {R : Pt → Pt → Prop} : ∀ {l : List Pt}, Ch R l → ∀ x ∈ l.dropLast, ∃ y ∈ l, R x y
  | [], _, x, h => nomatch h
  | [_], _, x, h => nomatch h
  | a :: b :: r, h, x, hx => by
    rw [List.dropLast_cons₂] at hx
    rcases List.mem_cons.mp hx with rfl | hx
    · exact ⟨b, by simp, h.1⟩
    · obtain ⟨y, hy, hr⟩ := Ch.succ h.2 x hx
      exact ⟨y, List.mem_cons_of_mem _ hy, hr⟩
theorem Ch.srt {R : Pt → Pt → Prop} (tr : ∀ a b c, R a b → R b c → R a c) : ∀ {a : Pt} {l : List Pt}, Ch R (a :: l) → ∀ x ∈ l, R a x
  | _, [], _, x, h => nomatch h
  | a, b :: r, h, x, hx => by
    rcases List.mem_cons.mp hx with rfl | hx
    · exact h.1
    · exact tr _ _ _ h.1 (Ch.srt tr h.2 x hx)
theorem Ch.nodup {R : Pt → Pt → Prop} (tr : ∀ a b c, R a b → R b c → R a c) (ir : ∀ a, ¬ R a a) : ∀ {l : List Pt}, Ch R l → l.Nodup
  | [], _ => List.nodup_nil
  | [a], _ => by simp
  | a :: b :: r, h => List.nodup_cons.mpr ⟨fun hm => ir a (Ch.srt tr h a hm), Ch.nodup tr ir (l := b :: r) h.2⟩
theorem nodup_len : ∀ {l m : List Pt}, l.Nodup → (∀ x ∈ l, x ∈ m) → l.length ≤ m.length
  | [], _, _, _ => Nat.zero_le _
  | a :: l, m, hn, h => by
    obtain ⟨h1, h2⟩ := List.nodup_cons.mp hn
    have ha := h a (List.mem_cons_self ..)
    have := nodup_len (m := m.erase a) h2 fun x hx => by
      refine (List.mem_erase_of_ne ?_).mpr (h x (List.mem_cons_of_mem _ hx))
      rintro rfl
      exact h1 hx
    rw [List.length_erase_of_mem ha] at this
    have := List.length_pos_of_mem ha
    simp only [List.length_cons]
    omega
/-- points in order, each once, with one more -/
def putIn (p : Pt) : List Pt → List Pt
  | [] => [p]
  | x :: r => if lt x p then x :: putIn p r else if x = p then x :: r else p :: x :: r
def order (pts : List Pt) : List Pt := pts.foldl (fun row p => putIn p row) []
theorem putIn_mem (p : Pt) : ∀ (l : List Pt) (x : Pt), x ∈ putIn p l ↔ x = p ∨ x ∈ l
  | [], x => by simp [putIn]
  | y :: r, x => by
    simp only [putIn]
    split
    · simp only [List.mem_cons, putIn_mem p r x]
      grind
    · split
      · rename_i h; subst h; simp
      · simp
theorem putIn_srt (p : Pt) : ∀ {l : List Pt}, Srt l → Srt (putIn p l)
  | [], _ => ⟨fun _ h => (nomatch h), trivial⟩
  | y :: r, h => by
    simp only [putIn]
    split
    · rename_i hy
      refine ⟨fun q hq => ?_, putIn_srt p h.2⟩
      rcases (putIn_mem p r q).mp hq with rfl | hq
      · exact hy
      · exact h.1 q hq
    · split
      · exact h
      · rename_i h1 h2
        have hp : lt p y := by rcases lt_tri y p with z | z | z <;> first | exact absurd z h1 | exact absurd z h2 | exact z
        refine ⟨fun q hq => ?_, h⟩
        rcases List.mem_cons.mp hq with rfl | hq
        · exact hp
        · exact lt_tr hp (h.1 q hq)
theorem order_from : ∀ (pts row : List Pt), Srt row → Srt (pts.foldl (fun row p => putIn p row) row) ∧ ∀ x, x ∈ pts.foldl (fun row p => putIn p row) row ↔ x ∈ row ∨ x ∈ pts
  | [], row, h => ⟨h, fun x => by simp⟩
  | p :: pts, row, h => by
    obtain ⟨h1, h2⟩ := order_from pts (putIn p row) (putIn_srt p h)
    refine ⟨h1, fun x => ?_⟩
    rw [List.foldl_cons, h2, putIn_mem]
    simp only [List.mem_cons]
    grind
theorem order_srt (pts : List Pt) : Srt (order pts) := (order_from pts [] trivial).1
theorem order_mem (pts : List Pt) (x : Pt) : x ∈ order pts ↔ x ∈ pts := by
  have := (order_from pts [] trivial).2 x
  simpa [order] using this
def ring (row : List Pt) : List Pt := (chain row).dropLast ++ (chain row.reverse).dropLast
def hull (pts : List Pt) : List Pt := filt (ring (order pts))
theorem side_congr {D D' : List Pt} (h : ∀ x, x ∈ D' → x ∈ D) {a b : Pt} (s : isSide D a b) : isSide D' a b := fun c hc => s c (h c hc)
/-- what follows what on the hull: the whole way round -/
structure Round (pts H : List Pt) : Prop where
  len : 2 < H.length
  most : H.length ≤ pts.length
  nodup : H.Nodup
  mem : ∀ x ∈ H, x ∈ pts
  ch : ∀ h t, H = h :: t → Ch (fun a b => a ≠ b ∧ isSide pts a b) (H ++ [h])
  least : ∀ h t, H = h :: t → ∀ x ∈ pts, ¬ lt x h
theorem drop_last : ∀ (a : Pt) (l : List Pt), (a :: l).dropLast ++ [lastP a l] = a :: l
  | _, [] => rfl
  | a, b :: l => by
    rw [List.dropLast_cons₂, List.cons_append]
    congr 1
    exact drop_last b l
theorem hull_ok {pts : List Pt} (h : ¬ ∀ a ∈ pts, ∀ b ∈ pts, ∀ c ∈ pts, turn a b c = 0) : Round pts (hull pts) := by
  have hs := order_srt pts
  have hm := order_mem pts
  cases hrow : order pts with
  | nil =>
    rw [hrow] at hm
    exact absurd (fun a ha => absurd ((hm a).mpr ha) (by simp)) h
  | cons p l =>
    rw [hrow] at hs hm
    have hin : ∀ x, x ∈ p :: l → x ∈ pts := fun x => (hm x).mp
    obtain ⟨m, a1, a2, a3, a4, _⟩ := chain_low hs
    obtain ⟨k, b1, b2, b3, b4, _⟩ := chain_up hs
    have hring : ring (order pts) = (p :: m).dropLast ++ (lastP p l :: k).dropLast := by unfold ring; rw [hrow, a1, b1]
    have sL : Ch (fun a b => a ≠ b ∧ isSide pts a b) (p :: m) := a3.mono fun a b ⟨h1, _, _, h4⟩ => ⟨fun z => lt_irr a (by rw [z] at h1 ⊢; exact h1), side_congr (fun x hx => (hm x).mpr hx) h4⟩
    have sU : Ch (fun a b => a ≠ b ∧ isSide pts a b) (lastP p l :: k) := b3.mono fun a b ⟨h1, _, _, h4⟩ => ⟨fun z => lt_irr a (by rw [z] at h1 ⊢; exact h1), side_congr (fun x hx => (hm x).mpr hx) h4⟩
    have nL : (p :: m).Nodup := (a3.mono fun a b h => h.1).nodup (R := lt) (fun _ _ _ => lt_tr) lt_irr
    have nU : (lastP p l :: k).Nodup := (b3.mono fun a b h => h.1).nodup (R := fun a b => lt b a) (fun _ _ _ x y => lt_tr y x) lt_irr
    have hno : ∀ x, x ∈ (p :: m).dropLast → x ∈ (lastP p l :: k).dropLast → False := fun x hx hy => by
      obtain ⟨y, _, c1, _, c2, c3⟩ := a3.succ x hx
      obtain ⟨z, _, d1, _, d2, d3⟩ := b3.succ x hy
      have := side_uniq c3 d3 c2 d2
      subst this
      exact lt_asym c1 d1
    have hn : (ring (order pts)).Nodup := by
      rw [hring]
      exact List.nodup_append.mpr ⟨nL.sublist (List.dropLast_sublist _), nU.sublist (List.dropLast_sublist _), fun a ha b hb e => hno a ha (by rw [e]; exact hb)⟩
    have hmem : ∀ x ∈ ring (order pts), x ∈ pts := fun x hx => by
      rw [hring] at hx
      rcases List.mem_append.mp hx with hx | hx
      · exact hin x (a4 x (dropLast_mem hx))
      · exact hin x (b4 x (dropLast_mem hx))
    -- all the way round
    have hwhole : Ch (fun a b => a ≠ b ∧ isSide pts a b) (ring (order pts) ++ [p]) := by
      rw [hring, List.append_assoc]
      have e1 : (p :: m) = (p :: m).dropLast ++ [lastP p l] := by rw [← a2]; exact (drop_last p m).symm
      have e2 : (lastP p l :: k) = (lastP p l :: k).dropLast ++ [p] := by
        have := drop_last (lastP p l) k
        rw [b2] at this
        exact this.symm
      rw [← e2]
      exact Ch.app (by rw [← e1]; exact sL) sU
    have hlen : 2 < (ring (order pts)).length := by
      rw [hring]
      simp only [List.length_append, List.length_dropLast, List.length_cons, Nat.add_sub_cancel]
      by_cases hz : 2 < m.length + k.length
      · exact hz
      · exfalso
        refine h ?_
        -- all on one line
        have two : p ≠ lastP p l → 1 ≤ m.length ∧ 1 ≤ k.length := fun hne => by
          constructor
          · cases m with
            | nil => exact absurd a2 hne
            | cons _ _ => simp
          · cases k with
            | nil => exact absurd b2.symm hne
            | cons _ _ => simp
        by_cases hne : p = lastP p l
        · have : ∀ x ∈ pts, x = p := fun x hx => by
            have hx' := (hm x).mpr hx
            cases l with
            | nil => simpa using hx'
            | cons b l =>
              have hlast : lastP p (b :: l) ∈ b :: l := by
                have := lastP_eq l b
                exact List.mem_of_getLast? this
              rw [← hne] at hlast
              exact absurd (hs.1 p hlast) (lt_irr p)
          intro a ha b hb c hc
          rw [this a ha, this b hb, this c hc, turn_aab]
        · obtain ⟨h1, h2⟩ := two hne
          have hm1 : m = [lastP p l] := by
            match m, h1, a2 with
            | [x], _, e => simp only [lastP] at e; rw [e]
            | _ :: _ :: _, _, _ => simp at hz; omega
          have hk1 : k = [p] := by
            match k, h2, b2 with
            | [x], _, e => simp only [lastP] at e; rw [e]
            | _ :: _ :: _, _, _ => simp at hz; omega
          rw [hm1] at sL
          rw [hk1] at sU
          have s1 := sL.1.2
          have s2 := sU.1.2
          have z : ∀ x ∈ pts, turn p (lastP p l) x = 0 := fun x hx => by
            have h3 := (s1 x hx).1
            have h4 := (s2 x hx).1
            have : turn (lastP p l) p x = -turn p (lastP p l) x := turn_rev _ _ _
            grind
          intro a ha b hb c hc
          exact on_line hne (z a ha) (z b hb) (z c hc)
    have hf : hull pts = ring (order pts) := by unfold hull filt; rw [if_pos hlen]
    have hhead : ∀ h t, ring (order pts) = h :: t → h = p := fun h t e => by
      cases m with
      | nil =>
        have e' : p = lastP p l := a2
        have : k.length = 0 := by
          cases k with
          | nil => rfl
          | cons x k =>
            have hlast : lastP (lastP p l) (x :: k) ∈ x :: k := List.mem_of_getLast? (lastP_eq k x)
            rw [b2] at hlast
            have := (List.nodup_cons.mp nU).1
            rw [← e'] at this
            exact absurd hlast this
        rw [hring] at hlen
        simp [this] at hlen
      | cons x m =>
        rw [hring, List.dropLast_cons₂] at e
        exact (List.cons.inj e).1.symm
    rw [hf]
    exact ⟨hlen, nodup_len hn hmem, hn, hmem, fun h t e => by rw [hhead h t e]; exact hwhole, fun h t e x hx => by
      rw [hhead h t e]
      rcases List.mem_cons.mp ((hm x).mpr hx) with rfl | hx'
      · exact lt_irr _
      · exact lt_asym (hs.1 x hx')⟩
theorem hull_flat {pts : List Pt} (h : ∀ a ∈ pts, ∀ b ∈ pts, ∀ c ∈ pts, turn a b c = 0) : hull pts = [] := by
  have hs := order_srt pts
  have hm := order_mem pts
  unfold hull
  cases hrow : order pts with
  | nil => rfl
  | cons p l =>
    rw [hrow] at hs hm
    have hc : ∀ a ∈ p :: l, ∀ b ∈ p :: l, ∀ c ∈ p :: l, turn a b c = 0 := fun a ha b hb c hc => h a ((hm a).mp ha) b ((hm b).mp hb) c ((hm c).mp hc)
    obtain ⟨m, a1, _, _, _, a5⟩ := chain_low hs
    obtain ⟨k, b1, _, _, _, b5⟩ := chain_up hs
    have h1 := a5 hc
    have h2 := b5 hc
    unfold filt ring
    rw [a1, b1, if_neg]
    simp only [List.length_append, List.length_dropLast, List.length_cons, Nat.add_sub_cancel]
    omega
end K66

/-! Which lines the sides lie on; whole multiples -/
namespace K66

/-! ### neighbours behind a cut -/
/-- all the way round -/
def CL (Q : Pt → Pt → Prop) : List Pt → Prop
  | [] => True
  | a :: r => Ch Q (a :: r ++ [a])
theorem Ch.suffix {R : Pt → Pt → Prop} : ∀ {l m : List Pt}, Ch R (l ++ m) → Ch R m
  | [], _, h => h
  | [a], [], _ => trivial
  | [a], _ :: _, h => h.2
  | a :: b :: l, m, h => Ch.suffix (l := b :: l) h.2
theorem Ch.prefix {R : Pt → Pt → Prop} : ∀ {l m : List Pt}, Ch R (l ++ m) → Ch R l
  | [], _, _ => trivial
  | [a], _, _ => trivial
  | a :: b :: l, m, h => ⟨h.1, Ch.prefix (l := b :: l) h.2⟩
section
variable {s e : Pt} {Q : Pt → Pt → Prop}
theorem clipP_ch (hx : ∀ a b, Q a b → turn s e a * turn s e b < 0 → Q a (crossP a b (turn s e a) (turn s e b)) ∧ Q (crossP a b (turn s e a) (turn s e b)) b)
    (hl : ∀ x y, turn s e x = 0 → turn s e y = 0 → Q x y) (hr : ∀ a b, Q a b → Q a a ∧ Q b b) : ∀ (bs : List Pt) (a : Pt), Q a a → Ch Q (a :: bs) → Ch Q (rr s e a :: (clipP s e a bs ++ [rr s e (lastP a bs)]))
  | [], a, ha, _ => by
    simp only [clipP, lastP, List.nil_append]
    refine ⟨?_, trivial⟩
    unfold rr
    split
    · exact ha
    · exact hl _ _ (turn_s s e) (turn_s s e)
  | b :: bs, a, haa, hc => by
    have hab := hc.1
    have ih := clipP_ch hx hl hr bs b (hr a b hab).2 hc.2
    simp only [clipP, lastP]
    have step : ∀ (w : Pt) (l : List Pt), clipP s e b bs ++ [rr s e (lastP b bs)] = w :: l → Ch Q (rr s e a :: outE s e a b ++ [w]) → Ch Q (rr s e a :: (outE s e a b ++ clipP s e b bs ++ [rr s e (lastP b bs)])) := fun w l hw h => by
      rw [List.append_assoc, hw, ← List.cons_append]
      refine Ch.app h ?_
      rw [hw] at ih
      exact ih.2
    by_cases hb : 0 ≤ turn s e b
    · obtain ⟨l, hw⟩ := first_pos (bs := bs) hb
      refine step _ _ hw ?_
      by_cases ha : 0 ≤ turn s e a
      · have ra : rr s e a = a := by unfold rr; rw [if_pos ha]
        have hn : ¬ turn s e a * turn s e b < 0 := by have := Rat.mul_nonneg ha hb; grind
        simp only [outE, ha, hn, if_true, if_false, List.append_nil, ra, List.cons_append, List.nil_append]
        exact ⟨haa, hab, trivial⟩
      · have ra : rr s e a = s := by unfold rr; rw [if_neg ha]
        by_cases hp : 0 < turn s e b
        · have hn := mul_neg_of (by grind : turn s e a < 0) hp
          simp only [outE, ha, hn, if_true, if_false, List.append_nil, ra, List.cons_append, List.nil_append]
          exact ⟨hl _ _ (turn_s s e) (cross_on (cross_neg hn)), (hx a b hab hn).2, trivial⟩
        · have h0 : turn s e b = 0 := by grind
          have hn : ¬ turn s e a * turn s e b < 0 := by rw [h0]; grind
          simp only [outE, ha, hn, if_false, List.append_nil, ra, List.cons_append, List.nil_append]
          exact ⟨hl _ _ (turn_s s e) h0, trivial⟩
    · obtain ⟨w, l, hw, h0⟩ := first_neg (bs := bs) (by grind : turn s e b < 0)
      refine step _ _ hw ?_
      by_cases ha : 0 ≤ turn s e a
      · have ra : rr s e a = a := by unfold rr; rw [if_pos ha]
        by_cases hp : 0 < turn s e a
        · have hn : turn s e a * turn s e b < 0 := by have := mul_neg_of (by grind : turn s e b < 0) hp; grind
          simp only [outE, ha, hn, if_true, ra, List.cons_append, List.nil_append]
          exact ⟨haa, (hx a b hab hn).1, hl _ _ (cross_on (cross_neg hn)) h0, trivial⟩
        · have ha0 : turn s e a = 0 := by grind
          have hn : ¬ turn s e a * turn s e b < 0 := by rw [ha0]; grind
          simp only [outE, ha, hn, if_true, if_false, List.append_nil, ra, List.cons_append, List.nil_append]
          exact ⟨haa, hl _ _ ha0 h0, trivial⟩
      · have ra : rr s e a = s := by unfold rr; rw [if_neg ha]
        have hn : ¬ turn s e a * turn s e b < 0 := by have := mul_nn (by grind : turn s e a ≤ 0) (by grind : turn s e b ≤ 0); grind
        simp only [outE, ha, hn, if_false, List.append_nil, ra, List.cons_append, List.nil_append]
        exact ⟨hl _ _ (turn_s s e) h0, trivial⟩
theorem clip_ch (hx : ∀ a b, Q a b → turn s e a * turn s e b < 0 → Q a (crossP a b (turn s e a) (turn s e b)) ∧ Q (crossP a b (turn s e a) (turn s e b)) b)
    (hl : ∀ x y, turn s e x = 0 → turn s e y = 0 → Q x y) (hr : ∀ a b, Q a b → Q a a ∧ Q b b) {P : List Pt} (h : CL Q P) : CL Q (clip s e P) := by
  cases P with
  | nil => trivial
  | cons a r =>
    have hq : Q a a := by
      cases r with
      | nil => exact h.1
      | cons b r => exact (hr a b h.1).1
    have hc := clipP_ch hx hl hr (r ++ [a]) a hq h
    rw [lastP_snoc] at hc
    show CL Q (clipP s e a (r ++ [a]))
    cases hR : clipP s e a (r ++ [a]) with
    | nil => trivial
    | cons c R =>
      rw [hR] at hc
      show Ch Q (c :: R ++ [c])
      have hc2 : Ch Q (c :: R ++ [rr s e a]) := hc.2
      by_cases ha : 0 ≤ turn s e a
      · obtain ⟨l, hl'⟩ := first_pos (s := s) (e := e) (bs := r ++ [a]) ha
        rw [hR, List.cons_append] at hl'
        have hca : c = a := (List.cons.inj hl').1
        have ra : rr s e a = a := by unfold rr; rw [if_pos ha]
        rw [ra, ← hca] at hc2
        exact hc2
      · have hz : turn s e (lastP a (r ++ [a])) < 0 := by rw [lastP_snoc]; grind
        have h1 := last_on (s := s) (e := e) (bs := r ++ [a]) (a := a) hz
        rw [hR] at h1
        obtain ⟨w, l, hw, h0⟩ := first_neg (s := s) (e := e) (bs := r ++ [a]) (b := a) (by grind)
        rw [hR, List.cons_append] at hw
        have hcw : c = w := (List.cons.inj hw).1
        rw [← hcw] at h0
        have e1 : c :: R = (c :: R).dropLast ++ [lastP c R] := (drop_last c R).symm
        rw [e1] at hc2 ⊢
        rw [List.append_assoc] at hc2 ⊢
        refine Ch.app (m := [c]) (Ch.prefix (m := [rr s e a]) (by rw [List.append_assoc]; exact hc2)) ⟨hl _ _ h1 h0, trivial⟩
theorem clipP_mem : ∀ (bs : List Pt) (a : Pt), Ch Q (a :: bs) → ∀ x ∈ clipP s e a bs, x ∈ a :: bs ∨ ∃ u v, Q u v ∧ turn s e u * turn s e v < 0 ∧ x = crossP u v (turn s e u) (turn s e v)
  | [], a, _, x, hx => nomatch hx
  | b :: bs, a, h, x, hx => by
    simp only [clipP, outE] at hx
    rcases List.mem_append.mp hx with hx | hx
    · rcases List.mem_append.mp hx with hx | hx
      · split at hx
        · simp at hx; rw [hx]; exact .inl (List.mem_cons_self ..)
        · cases hx
      · split at hx
        · rename_i hc
          simp at hx
          exact .inr ⟨a, b, h.1, hc, hx⟩
        · cases hx
    · rcases clipP_mem bs b h.2 x hx with h1 | h1
      · exact .inl (List.mem_cons_of_mem _ h1)
      · exact .inr h1
theorem clip_mem {P : List Pt} (h : CL Q P) {x : Pt} (hx : x ∈ clip s e P) : x ∈ P ∨ ∃ u v, Q u v ∧ turn s e u * turn s e v < 0 ∧ x = crossP u v (turn s e u) (turn s e v) := by
  cases P with
  | nil => cases hx
  | cons a r =>
    rcases clipP_mem (r ++ [a]) a h x hx with h1 | h1
    · left
      simp only [List.mem_cons, List.mem_append, List.not_mem_nil, or_false] at h1 ⊢
      grind
    · exact .inr h1
theorem clipP_len : ∀ (bs : List Pt) (a : Pt), (clipP s e a bs).length ≤ 2 * bs.length
  | [], a => Nat.le_refl _
  | b :: bs, a => by
    have := clipP_len bs b
    have h2 : (outE s e a b).length ≤ 2 := by
      unfold outE
      rw [List.length_append]
      have : (if 0 ≤ turn s e a then [a] else []).length ≤ 1 := by split <;> simp
      have : (if turn s e a * turn s e b < 0 then [crossP a b (turn s e a) (turn s e b)] else []).length ≤ 1 := by split <;> simp
      omega
    simp only [clipP, List.length_append, List.length_cons]
    omega
theorem clip_len (P : List Pt) : (clip s e P).length ≤ 2 * P.length := by
  cases P with
  | nil => exact Nat.le_refl _
  | cons a r =>
    have := clipP_len (s := s) (e := e) (r ++ [a]) a
    simp only [List.length_append, List.length_cons, List.length_nil] at this ⊢
    exact this
theorem clipP_len1 : ∀ (bs : List Pt) (a : Pt), (∀ x ∈ a :: bs, turn s e x ≤ 0) → (clipP s e a bs).length ≤ bs.length
  | [], a, _ => Nat.le_refl _
  | b :: bs, a, h => by
    have := clipP_len1 bs b fun x hx => h x (List.mem_cons_of_mem _ hx)
    have hn : ¬ turn s e a * turn s e b < 0 := by have := mul_nn (h a (by simp)) (h b (by simp)); grind
    have h2 : (outE s e a b).length ≤ 1 := by
      unfold outE
      rw [if_neg hn, List.append_nil]
      split <;> simp
    simp only [clipP, List.length_append, List.length_cons]
    omega
theorem clip_len1 {P : List Pt} (h : ∀ x ∈ P, turn s e x ≤ 0) : (clip s e P).length ≤ P.length := by
  cases P with
  | nil => exact Nat.le_refl _
  | cons a r =>
    have := clipP_len1 (s := s) (e := e) (r ++ [a]) a fun x hx => h x (by simp at hx ⊢; grind)
    simp only [List.length_append, List.length_cons, List.length_nil] at this ⊢
    exact this
end

/-! ### lines -/
structure Line where
  a : Int
  b : Int
  c : Int
def Line.val (l : Line) (p : Pt) : Rat := l.a * p.1 + l.b * p.2 + l.c / 6
def det (l m : Line) : Int := l.a * m.b - m.a * l.b
/-- a whole number -/
def Wh (q : Rat) : Prop := ∃ n : Int, q = n
theorem Wh.add {x y : Rat} (h : Wh x) (g : Wh y) : Wh (x + y) := by obtain ⟨n, rfl⟩ := h; obtain ⟨m, rfl⟩ := g; exact ⟨n + m, by simp⟩
theorem Wh.sub {x y : Rat} (h : Wh x) (g : Wh y) : Wh (x - y) := by obtain ⟨n, rfl⟩ := h; obtain ⟨m, rfl⟩ := g; exact ⟨n - m, by simp⟩
theorem Wh.mul {x y : Rat} (h : Wh x) (g : Wh y) : Wh (x * y) := by obtain ⟨n, rfl⟩ := h; obtain ⟨m, rfl⟩ := g; exact ⟨n * m, by simp⟩
theorem Wh.neg {x : Rat} (h : Wh x) : Wh (-x) := by obtain ⟨n, rfl⟩ := h; exact ⟨-n, by simp⟩
theorem Wh.int (n : Int) : Wh n := ⟨n, rfl⟩
theorem natc (n : Nat) : (n : Rat) = ((n : Int) : Rat) := rfl
theorem Wh.nat (n : Nat) : Wh n := ⟨n, natc n⟩
def LINE : Nat := 72
def DET : Nat := 10368
/-- a good line -/
def Line.ok (l : Line) : Prop := l.a.natAbs ≤ LINE ∧ l.b.natAbs ≤ LINE ∧ (l.a ≠ 0 ∨ l.b ≠ 0)
/-- the line of a side -/
def IsLn (h : Side) (l : Line) : Prop := ∀ p, l.val p = 6 * turn h.1 h.2 p
theorem line_of {h : Side} (h1 : Wh (6 * h.1.1)) (h2 : Wh (6 * h.1.2)) (g1 : Wh (6 * h.2.1)) (g2 : Wh (6 * h.2.2)) (hn : h.1 ≠ h.2)
    (b1 : -12 ≤ h.2.1 - h.1.1 ∧ h.2.1 - h.1.1 ≤ 12) (b2 : -12 ≤ h.2.2 - h.1.2 ∧ h.2.2 - h.1.2 ≤ 12) : ∃ l : Line, l.ok ∧ IsLn h l := by
  obtain ⟨x1, e1⟩ := h1
  obtain ⟨y1, e2⟩ := h2
  obtain ⟨x2, e3⟩ := g1
  obtain ⟨y2, e4⟩ := g2
  refine ⟨⟨y1 - y2, x2 - x1, (y2 - y1) * x1 - (x2 - x1) * y1⟩, ⟨?_, ?_, ?_⟩, fun p => ?_⟩
  · have u : ((y1 - y2 : Int) : Rat) ≤ 72 := by simp only [Rat.intCast_sub]; grind
    have l : (-72 : Rat) ≤ ((y1 - y2 : Int) : Rat) := by simp only [Rat.intCast_sub]; grind
    have u' : y1 - y2 ≤ 72 := Rat.intCast_le_intCast.mp (by simpa using u)
    have l' : -72 ≤ y1 - y2 := Rat.intCast_le_intCast.mp (by simpa using l)
    show (y1 - y2).natAbs ≤ 72
    omega
  · have u : ((x2 - x1 : Int) : Rat) ≤ 72 := by simp only [Rat.intCast_sub]; grind
    have l : (-72 : Rat) ≤ ((x2 - x1 : Int) : Rat) := by simp only [Rat.intCast_sub]; grind
    have u' : x2 - x1 ≤ 72 := Rat.intCast_le_intCast.mp (by simpa using u)
    have l' : -72 ≤ x2 - x1 := Rat.intCast_le_intCast.mp (by simpa using l)
    show (x2 - x1).natAbs ≤ 72
    omega
  · by_cases z1 : y1 - y2 = 0
    · by_cases z2 : x2 - x1 = 0
      · exfalso
        refine hn (Prod.ext ?_ ?_)
        · have : x2 = x1 := by omega
          rw [this] at e3
          grind
        · have : y1 = y2 := by omega
          rw [this] at e2
          grind
      · exact .inr z2
    · exact .inl z1
  · unfold Line.val turn
    simp only [Rat.intCast_sub, Rat.intCast_mul]
    grind
theorem det_le {l m : Line} (hl : l.ok) (hm : m.ok) : (det l m).natAbs ≤ DET := by
  have a1 := hl.1
  have a2 := hl.2.1
  have b1 := hm.1
  have b2 := hm.2.1
  have h1 : (l.a * m.b).natAbs ≤ 72 * 72 := by rw [Int.natAbs_mul]; exact Nat.mul_le_mul a1 b2
  have h2 : (m.a * l.b).natAbs ≤ 72 * 72 := by rw [Int.natAbs_mul]; exact Nat.mul_le_mul b1 a2
  unfold det DET
  omega
/-- the crossing of two lines -/
theorem cramer {l m : Line} {x : Pt} (hl : l.val x = 0) (hm : m.val x = 0) : Wh (6 * (det l m : Rat) * x.1) ∧ Wh (6 * (det l m : Rat) * x.2) := by
  unfold Line.val at hl hm
  have e : (det l m : Rat) = l.a * m.b - m.a * l.b := by unfold det; simp
  constructor
  · refine ⟨m.c * l.b - l.c * m.b, ?_⟩
    rw [e]
    simp only [Rat.intCast_sub, Rat.intCast_mul]
    grind
  · refine ⟨l.c * m.a - m.c * l.a, ?_⟩
    rw [e]
    simp only [Rat.intCast_sub, Rat.intCast_mul]
    grind
def pr (l : Line) : List Line → Nat
  | [] => 1
  | m :: r => (if det l m = 0 then 1 else (det l m).natAbs) * pr l r
/-- the product of the determinants of all pairs -/
def pd : List Line → Nat
  | [] => 1
  | l :: r => pr l r * pd r
theorem det_anti (l m : Line) : det m l = -det l m := by unfold det; rw [Int.neg_sub]
theorem pr_dvd {l m : Line} : ∀ {r : List Line}, m ∈ r → det l m ≠ 0 → (det l m).natAbs ∣ pr l r
  | k :: r, h, hd => by
    simp only [pr]
    rcases List.mem_cons.mp h with rfl | h
    · rw [if_neg hd]; exact Nat.dvd_mul_right ..
    · exact Nat.dvd_trans (pr_dvd h hd) (Nat.dvd_mul_left ..)
theorem pd_dvd : ∀ {L : List Line} {l m : Line}, l ∈ L → m ∈ L → det l m ≠ 0 → (det l m).natAbs ∣ pd L
  | k :: r, l, m, hl, hm, hd => by
    simp only [pd]
    rcases List.mem_cons.mp hl with rfl | hl
    · rcases List.mem_cons.mp hm with rfl | hm
      · exact absurd (by unfold det; rw [Int.mul_comm]; omega) hd
      · exact Nat.dvd_trans (pr_dvd hm hd) (Nat.dvd_mul_right ..)
    · rcases List.mem_cons.mp hm with rfl | hm
      · have : (det l m).natAbs = (det m l).natAbs := by rw [det_anti l m, Int.natAbs_neg]
        rw [this]
        rename_i hl2
        have hz : det m l ≠ 0 := by rw [det_anti l m]; omega
        exact Nat.dvd_trans (pr_dvd (r := r) hl2 hz) (Nat.dvd_mul_right ..)
      · exact Nat.dvd_trans (pd_dvd hl hm hd) (Nat.dvd_mul_left ..)
theorem pr_pos (l : Line) : ∀ r, 0 < pr l r
  | [] => by simp [pr]
  | m :: r => by
    simp only [pr]
    refine Nat.mul_pos ?_ (pr_pos l r)
    split <;> omega
theorem pd_pos : ∀ L, 0 < pd L
  | [] => by simp [pd]
  | l :: r => Nat.mul_pos (pr_pos l r) (pd_pos r)
theorem pr_le {l : Line} (hl : l.ok) : ∀ {r : List Line}, (∀ m ∈ r, m.ok) → pr l r ≤ (2 ^ 14) ^ r.length
  | [], _ => by simp [pr]
  | m :: r, h => by
    have h1 := det_le hl (h m (List.mem_cons_self ..))
    have h2 := pr_le hl fun k hk => h k (List.mem_cons_of_mem _ hk)
    simp only [pr, List.length_cons, Nat.pow_succ]
    rw [Nat.mul_comm]
    refine Nat.mul_le_mul h2 ?_
    unfold DET at h1
    split <;> omega
def tri2 : Nat → Nat
  | 0 => 0
  | n + 1 => n + tri2 n
theorem pd_le : ∀ {L : List Line}, (∀ m ∈ L, m.ok) → pd L ≤ 2 ^ (14 * tri2 L.length)
  | [], _ => by simp [pd, tri2]
  | l :: r, h => by
    have h1 := pr_le (h l (List.mem_cons_self ..)) fun k hk => h k (List.mem_cons_of_mem _ hk)
    have h2 := pd_le fun k hk => h k (List.mem_cons_of_mem _ hk)
    simp only [pd, List.length_cons, tri2]
    refine Nat.le_trans (Nat.mul_le_mul h1 h2) ?_
    rw [← Nat.pow_mul, ← Nat.pow_add]
    exact Nat.pow_le_pow_right (by omega) (by rw [Nat.mul_add]; omega)
/-- in the square -/
def Sq (p : Pt) : Prop := (-6 ≤ p.1 ∧ p.1 ≤ 6) ∧ -6 ≤ p.2 ∧ p.2 ≤ 6
theorem sq_conv : Conv Sq := fun a b ha hb k h0 h1 => by
  have mid : ∀ x y : Rat, -6 ≤ x → x ≤ 6 → -6 ≤ y → y ≤ 6 → -6 ≤ x + k * (y - x) ∧ x + k * (y - x) ≤ 6 := fun x y x1 x2 y1 y2 => by
    have a1 := Rat.mul_nonneg (a := 1 - k) (b := x + 6) (by grind) (by grind)
    have a2 := Rat.mul_nonneg (a := k) (b := y + 6) h0 (by grind)
    have a3 := Rat.mul_nonneg (a := 1 - k) (b := 6 - x) (by grind) (by grind)
    have a4 := Rat.mul_nonneg (a := k) (b := 6 - y) h0 (by grind)
    grind
  exact ⟨mid _ _ ha.1.1 ha.1.2 hb.1.1 hb.1.2, mid _ _ ha.2.1 ha.2.2 hb.2.1 hb.2.2⟩
/-- a point whose parts are known in size -/
structure Vt (L : List Line) (p : Pt) : Prop where
  ex : ∃ D : Nat, 0 < D ∧ D ≤ DET ∧ D ∣ pd L ∧ Wh (6 * (D : Rat) * p.1) ∧ Wh (6 * (D : Rat) * p.2)
  sq : Sq p
/-- both on one of the lines -/
def On (L : List Line) (x y : Pt) : Prop := ∃ l ∈ L, l.val x = 0 ∧ l.val y = 0
structure Poly (L : List Line) (P : List Pt) : Prop where
  cl : CL (On L) P
  vt : ∀ x ∈ P, Vt L x
theorem val_cross {l : Line} {a b : Pt} (ha : l.val a = 0) (hb : l.val b = 0) (p q : Rat) : l.val (crossP a b p q) = 0 := by
  unfold Line.val crossP at *
  generalize p / (p - q) = k
  simp only
  grind
theorem clip_polyG {L : List Line} (hL : ∀ l ∈ L, l.ok) {h : Side} {m : Line} (hm : m ∈ L) (zero : ∀ x, turn h.1 h.2 x = 0 → m.val x = 0) (hdv : ∀ u v, turn h.1 h.2 u ≠ turn h.1 h.2 v → m.val u ≠ m.val v) {P : List Pt} (hP : Poly L P) : Poly L (clip h.1 h.2 P) := by
  refine ⟨clip_ch (fun a b ⟨l, hl, h1, h2⟩ _ => ⟨⟨l, hl, h1, val_cross h1 h2 _ _⟩, ⟨l, hl, val_cross h1 h2 _ _, h2⟩⟩) (fun x y hx hy => ⟨m, hm, zero x hx, zero y hy⟩) (fun a b ⟨l, hl, h1, h2⟩ => ⟨⟨l, hl, h1, h1⟩, ⟨l, hl, h2, h2⟩⟩) hP.cl, fun x hx => ⟨?_, clip_conv sq_conv (fun y hy => (hP.vt y hy).sq) x hx⟩⟩
  rcases clip_mem hP.cl hx with h1 | ⟨u, v, ⟨l, hl, hu, hv⟩, hn, rfl⟩
  · exact (hP.vt x h1).ex
  · have hne := cross_neg hn
    have x1 : l.val (crossP u v (turn h.1 h.2 u) (turn h.1 h.2 v)) = 0 := val_cross hu hv _ _
    have x2 := zero _ (cross_on hne)
    have hd : det l m ≠ 0 := fun z => by
      have z' : ((l.a : Rat) * m.b - m.a * l.b) = 0 := by
        have : ((det l m : Int) : Rat) = 0 := by rw [z]; rfl
        unfold det at this
        simpa using this
      have e1 := hdv u v hne
      have hd1 : (m.a : Rat) * (v.1 - u.1) + m.b * (v.2 - u.2) ≠ 0 := by unfold Line.val at e1; grind
      have hd2 : (l.a : Rat) * (v.1 - u.1) + l.b * (v.2 - u.2) = 0 := by unfold Line.val at hu hv; grind
      have f1 : (l.a : Rat) * ((m.a : Rat) * (v.1 - u.1) + m.b * (v.2 - u.2)) = 0 := by grind
      have f2 : (l.b : Rat) * ((m.a : Rat) * (v.1 - u.1) + m.b * (v.2 - u.2)) = 0 := by grind
      rcases (hL l hl).2.2 with n | n
      · rcases Rat.mul_eq_zero.mp f1 with g | g
        · exact n (by exact_mod_cast g)
        · exact hd1 g
      · rcases Rat.mul_eq_zero.mp f2 with g | g
        · exact n (by exact_mod_cast g)
        · exact hd1 g
    obtain ⟨c1, c2⟩ := cramer x1 x2
    refine ⟨(det l m).natAbs, by omega, det_le (hL l hl) (hL m hm), pd_dvd hl hm hd, ?_⟩
    rcases Int.natAbs_eq (det l m) with g | g
    · have : (((det l m).natAbs : Nat) : Rat) = (det l m : Rat) := by
        conv => rhs; rw [g]
        exact natc _
      rw [this]
      exact ⟨c1, c2⟩
    · have : (((det l m).natAbs : Nat) : Rat) = -(det l m : Rat) := by
        conv => rhs; rw [g]
        rw [natc]
        simp
      rw [this]
      refine ⟨?_, ?_⟩
      · have := c1.neg
        have e : -(6 * (det l m : Rat) * (crossP u v (turn h.1 h.2 u) (turn h.1 h.2 v)).1) = 6 * -(det l m : Rat) * (crossP u v (turn h.1 h.2 u) (turn h.1 h.2 v)).1 := by grind
        rw [e] at this
        exact this
      · have := c2.neg
        have e : -(6 * (det l m : Rat) * (crossP u v (turn h.1 h.2 u) (turn h.1 h.2 v)).2) = 6 * -(det l m : Rat) * (crossP u v (turn h.1 h.2 u) (turn h.1 h.2 v)).2 := by grind
        rw [e] at this
        exact this
theorem clip_poly {L : List Line} (hL : ∀ l ∈ L, l.ok) {h : Side} {m : Line} (hm : m ∈ L) (hi : IsLn h m) {P : List Pt} (hP : Poly L P) : Poly L (clip h.1 h.2 P) :=
  clip_polyG hL hm (fun x hx => by rw [hi x, hx]; grind) (fun u v hne => by rw [hi u, hi v]; grind) hP
theorem clip_polyR {L : List Line} (hL : ∀ l ∈ L, l.ok) {h : Side} {m : Line} (hm : m ∈ L) (hi : IsLn h m) {P : List Pt} (hP : Poly L P) : Poly L (clip h.2 h.1 P) :=
  clip_polyG (h := (h.2, h.1)) hL hm (fun x hx => by
    have : turn h.2 h.1 x = -turn h.1 h.2 x := turn_rev _ _ _
    simp only at hx
    rw [hi x]; grind) (fun u v hne => by
    have h1 : turn h.2 h.1 u = -turn h.1 h.2 u := turn_rev _ _ _
    have h2 : turn h.2 h.1 v = -turn h.1 h.2 v := turn_rev _ _ _
    simp only at hne
    rw [hi u, hi v]; grind) hP
theorem filt_poly {L : List Line} {P : List Pt} (h : Poly L P) : Poly L (filt P) := by
  unfold filt
  split
  · exact h
  · exact ⟨trivial, fun _ hx => (nomatch hx)⟩
theorem filt_len (P : List Pt) : (filt P).length ≤ P.length := by
  unfold filt
  split <;> simp
end K66

/-! The defs by their mirrors: numbers, points, turns -/
namespace K66
open PySem L2 Pv

/-! ### numbers -/
def A_fraction (C : Cl) : Prop := ∀ n d : Int, d ≠ 0 → nb d.natAbs ≤ 9000 → C "fraction" [.int n, .int d] = sh (fr (Rat.divInt n d))
def A_common (C : Cl) : Prop := ∀ a b : Int, nb b.natAbs ≤ 9000 → C "common_numbers" [.int a, .int b] = sh (.int (Int.gcd a b))
def A_lfraction (C : Cl) : Prop := ∀ n d : Int, d ≠ 0 → nb d.natAbs ≤ 9000 → nb (Rat.divInt n d).den ≤ 4900 → C "_law_fraction" [.int n, .int d] = sh (fr (Rat.divInt n d))
def A_add (C : Cl) (f : Str) : Prop := ∀ x y : Rat, bz x + bz y ≤ 9000 → C f [fr x, fr y] = sh (fr (x + y))
def A_sub (C : Cl) (f : Str) : Prop := ∀ x y : Rat, bz x + bz y ≤ 9000 → C f [fr x, fr y] = sh (fr (x - y))
def A_mul (C : Cl) (f : Str) : Prop := ∀ x y : Rat, bz x + bz y ≤ 9000 → C f [fr x, fr y] = sh (fr (x * y))
def A_div (C : Cl) (f : Str) : Prop := ∀ x y : Rat, y ≠ 0 → bz x + bz y ≤ 9000 → C f [fr x, fr y] = sh (fr (x / y))
def A_lt (C : Cl) (f : Str) : Prop := ∀ x y : Rat, bz x + bz y ≤ 9000 → C f [fr x, fr y] = sh (.bl (decide (x < y)))
def B_add (C : Cl) (f : Str) : Prop := ∀ x y : Rat, bz x + bz y ≤ 9000 → nb (x + y).den ≤ 4900 → C f [fr x, fr y] = sh (fr (x + y))
def B_sub (C : Cl) (f : Str) : Prop := ∀ x y : Rat, bz x + bz y ≤ 9000 → nb (x - y).den ≤ 4900 → C f [fr x, fr y] = sh (fr (x - y))
def B_mul (C : Cl) (f : Str) : Prop := ∀ x y : Rat, bz x + bz y ≤ 9000 → nb (x * y).den ≤ 4900 → C f [fr x, fr y] = sh (fr (x * y))
def B_div (C : Cl) (f : Str) : Prop := ∀ x y : Rat, y ≠ 0 → bz x + bz y ≤ 9000 → nb (x / y).den ≤ 4900 → C f [fr x, fr y] = sh (fr (x / y))

theorem t_common (C : Cl) (a b : Int) (h : nb b.natAbs ≤ 9000) : mm_common_numbers C (.int a) (.int b) = sh (.int (Int.gcd a b)) := s_common C a b h
theorem t_fraction {C : Cl} (hc : A_common C) (n d : Int) (hd : d ≠ 0) (h : nb d.natAbs ≤ 9000) : mm_fraction C (.int n) (.int d) = sh (fr (Rat.divInt n d)) := by
  unfold mm_fraction
  simp only [cmp_eq, eqD_int, hd, decide_false, ob_some, Bool.false_eq_true, if_false, hc n d h, cl1_sh, sh_bind, jn_def, cmp_lt, neg1_int]
  by_cases hneg : d < 0
  · obtain ⟨h1, h2⟩ := s_frac (n := n) hd h (s := -(Int.gcd n d : Int)) (by rw [if_pos hneg])
    simp only [hneg, decide_true, if_true, h1, h2, sh_bind, ob_some, om_some]
    rfl
  · obtain ⟨h1, h2⟩ := s_frac (n := n) hd h (s := (Int.gcd n d : Int)) (by rw [if_neg hneg])
    simp only [hneg, decide_false, Bool.false_eq_true, if_false, h1, h2, sh_bind, ob_some, om_some]
    rfl
/-- Euclid's turns, both numbers g times -/
theorem euclid_forS {step : PV → PV × PV → (PV × PV → Out) → (PV × PV → Out) → Out} {K : PV × PV → Out}
    (h0 : ∀ x (a : Nat) kn kb, step x (.int a, .int (0 : Nat)) kn kb = kb (.int a, .int (0 : Nat))) (hs : ∀ x (a b : Nat), b ≠ 0 → ∀ kn kb, step x (.int a, .int b) kn kb = kn (.int b, .int (a % b : Nat))) (g : Nat) (hg : 0 < g) :
    ∀ (k a b n : Nat) (lo : Int), b < 2 ^ k → 2 * k + 1 ≤ n → forC step K (intsFrom lo n) (.int (g * a : Nat), .int (g * b : Nat)) = K (.int (g * Nat.gcd a b : Nat), .int (0 : Nat))
  | 0, a, b, n, lo, hb, hn => by
    obtain ⟨n, rfl⟩ : ∃ v, n = v + 1 := ⟨n - 1, by omega⟩
    have : b = 0 := by simp at hb; exact hb
    subst this
    unfold Pv.intsFrom forC
    rw [Nat.mul_zero, h0]
    simp
  | k + 1, a, b, n, lo, hb, hn => by
    obtain ⟨n, rfl⟩ : ∃ v, n = v + 1 := ⟨n - 1, by omega⟩
    unfold Pv.intsFrom forC
    by_cases hb0 : b = 0
    · subst hb0
      rw [Nat.mul_zero, h0]
      simp
    · rw [hs _ (g * a) (g * b) (Nat.ne_of_gt (Nat.mul_pos hg (Nat.pos_of_ne_zero hb0))), Nat.mul_mod_mul_left]
      show forC step K (intsFrom (lo + 1) n) (.int (g * b : Nat), .int (g * (a % b) : Nat)) = _
      obtain ⟨n, rfl⟩ : ∃ v, n = v + 1 := ⟨n - 1, by omega⟩
      unfold Pv.intsFrom forC
      by_cases h1 : a % b = 0
      · rw [h1, Nat.mul_zero, h0, ← gcd_step a b, h1]; simp
      · rw [hs _ (g * b) (g * (a % b)) (Nat.ne_of_gt (Nat.mul_pos hg (Nat.pos_of_ne_zero h1))), Nat.mul_mod_mul_left]
        show forC step K (intsFrom (lo + 1 + 1) n) (.int (g * (a % b) : Nat), .int (g * (b % (a % b)) : Nat)) = _
        rw [euclid_forS h0 hs g hg k (a % b) (b % (a % b)) n _ (mod_half hb h1 hb0) (by omega), gcd_step, gcd_step]
theorem den_gcd {n d : Int} (hd : d ≠ 0) : d.natAbs = Int.gcd n d * (Rat.divInt n d).den := by
  rw [Rat.den_divInt, if_neg hd, Int.gcd_comm d n]
  exact (Nat.mul_div_cancel' (Int.ofNat_dvd_left.mp (Int.gcd_dvd_right ..))).symm
theorem t_lfraction (C : Cl) (n d : Int) (hd : d ≠ 0) (h : nb d.natAbs ≤ 9000) (h2 : nb (Rat.divInt n d).den ≤ 4900) : mm__law_fraction C (.int n) (.int d) = sh (fr (Rat.divInt n d)) := by
  have hg : 0 < Int.gcd n d := by
    have : Int.gcd n d ≠ 0 := fun z => hd (Int.gcd_eq_zero_iff.mp z).2
    omega
  have e1 : d.natAbs = Int.gcd n d * (Rat.divInt n d).den := den_gcd hd
  obtain ⟨m, e2⟩ : ∃ m, n.natAbs = Int.gcd n d * m := Int.ofNat_dvd_left.mp (Int.gcd_dvd_left ..)
  have e3 : Nat.gcd m (Rat.divInt n d).den = 1 := by
    have : Int.gcd n d = Int.gcd n d * Nat.gcd m (Rat.divInt n d).den := by
      conv => lhs; rw [show Int.gcd n d = Nat.gcd n.natAbs d.natAbs from rfl, e1, e2, Nat.gcd_mul_left]
    exact Nat.eq_of_mul_eq_mul_left hg (by omega)
  unfold mm__law_fraction
  simp only [abs_int, sh_bind, jn_def]
  have hr : rng1 (.int 10000) = some (intsFrom 0 10000) := rng1_ok (n := 10000) (by omega)
  rw [hr, ob_some, e2, e1]
  rw [euclid_forS (fun x a kn kb => by simp) (fun x a b h0 kn kb => by
      have : ¬ (b : Int) = 0 := by omega
      simp only [cmp_eq, eqD_int, this, decide_false, ob_some, Bool.false_eq_true, if_false]
      rw [op2_mods (by omega), sh_bind]; rfl) (Int.gcd n d) hg 4900 m (Rat.divInt n d).den 10000 0
    (Nat.lt_of_lt_of_le (lt_nb _) (Nat.pow_le_pow_right (by omega) h2)) (by omega), e3, Nat.mul_one]
  simp only [cmp_lt, ob_some, neg1_int, sh_bind]
  by_cases hneg : d < 0
  · obtain ⟨h1, h2⟩ := s_frac (n := n) hd (by omega) (s := -(Int.gcd n d : Int)) (by rw [if_pos hneg])
    simp only [hneg, decide_true, if_true, h1, h2, sh_bind, ob_some, om_some]
    rfl
  · obtain ⟨h1, h2⟩ := s_frac (n := n) hd (by omega) (s := (Int.gcd n d : Int)) (by rw [if_neg hneg])
    simp only [hneg, decide_false, Bool.false_eq_true, if_false, h1, h2, sh_bind, ob_some, om_some]
    rfl
section
variable {x y : Rat}
theorem parts9 (h : bz x + bz y ≤ 9000) : mulOk x.num y.den = true ∧ mulOk y.num x.den = true ∧ mulOk x.den y.den = true ∧ mulOk x.num y.num = true ∧ ((x.den : Int) * y.den ≠ 0) ∧ nb ((x.den : Int) * y.den).natAbs ≤ 9000 := by
  have a1 := bz_num x
  have a2 := bz_den x
  have b1 := bz_num y
  have b2 := bz_den y
  have hm := nb_mulI x.den y.den
  simp only [Int.natAbs_natCast] at hm
  refine ⟨mulOk_nb ?_, mulOk_nb ?_, mulOk_nb ?_, mulOk_nb ?_, Int.mul_ne_zero (den_ne x) (den_ne y), by omega⟩ <;> (try simp only [Int.natAbs_natCast]) <;> omega
theorem partsd (h : bz x + bz y ≤ 9000) (hy : y ≠ 0) : mulOk x.num y.den = true ∧ mulOk x.den y.num = true ∧ ((x.den : Int) * y.num ≠ 0) ∧ nb ((x.den : Int) * y.num).natAbs ≤ 9000 := by
  have a1 := bz_num x
  have a2 := bz_den x
  have a3 := bz_num y
  have a4 := bz_den y
  refine ⟨mulOk_nb (by show nb _ + nb y.den ≤ _; omega), mulOk_nb (by show nb x.den + nb _ ≤ _; omega), ?_, ?_⟩
  · have h1 := den_ne x
    have h2 : y.num ≠ 0 := fun e => hy ((num_zero_iff y).mp e)
    exact Int.mul_ne_zero h1 h2
  · have hm := nb_mulI x.den y.num
    simp only [Int.natAbs_natCast] at hm
    omega
end
theorem div_divInt' (x y : Rat) : x / y = Rat.divInt (x.num * y.den) (x.den * y.num) := by
  rw [Rat.div_def, Rat.inv_def]
  conv => lhs; rw [← Rat.num_divInt_den x]
  rw [Rat.divInt_mul_divInt]
theorem t_plus {C : Cl} (hc : A_fraction C) (x y : Rat) (h : bz x + bz y ≤ 9000) : mm_plus C (fr x) (fr y) = sh (fr (x + y)) := by
  obtain ⟨h1, h2, h3, h4, h5, h6⟩ := parts9 h
  unfold mm_plus
  simp only [fr0, fr1, sh_bind, op2_mul h1, op2_mul h2, op2_mul h3, op2_add, ob_some, om_some, List.append_nil, hc _ _ h5 h6, cl1_sh, ← add_divInt]
  rfl
theorem t_minus {C : Cl} (hc : A_fraction C) (x y : Rat) (h : bz x + bz y ≤ 9000) : mm_minus C (fr x) (fr y) = sh (fr (x - y)) := by
  obtain ⟨h1, h2, h3, h4, h5, h6⟩ := parts9 h
  unfold mm_minus
  simp only [fr0, fr1, sh_bind, op2_mul h1, op2_mul h2, op2_mul h3, op2_sub, ob_some, om_some, List.append_nil, hc _ _ h5 h6, cl1_sh, ← sub_divInt]
  rfl
theorem t_times {C : Cl} (hc : A_fraction C) (x y : Rat) (h : bz x + bz y ≤ 9000) : mm_times C (fr x) (fr y) = sh (fr (x * y)) := by
  obtain ⟨h1, h2, h3, h4, h5, h6⟩ := parts9 h
  unfold mm_times
  simp only [fr0, fr1, sh_bind, op2_mul h4, op2_mul h3, ob_some, om_some, List.append_nil, hc _ _ h5 h6, cl1_sh, ← mul_divInt]
  rfl
theorem t_over {C : Cl} (hc : A_fraction C) (x y : Rat) (hy : y ≠ 0) (h : bz x + bz y ≤ 9000) : mm_over C (fr x) (fr y) = sh (fr (x / y)) := by
  obtain ⟨m1, m2, h0, h4⟩ := partsd h hy
  unfold mm_over
  simp only [fr0, fr1, sh_bind, ob_some, om_some, List.append_nil, op2_mul m1, op2_mul m2, List.cons_append, List.nil_append]
  rw [hc _ _ h0 h4, cl1_sh, sh_bind, div_divInt']; rfl
theorem t_less (C : Cl) (x y : Rat) (h : bz x + bz y ≤ 9000) : mm_less C (fr x) (fr y) = sh (.bl (decide (x < y))) := by
  obtain ⟨h1, h2, h3, h4, h5, h6⟩ := parts9 h
  unfold mm_less
  simp only [fr0, fr1, sh_bind, op2_mul h1, op2_mul h2, cmpV_def, cmp_lt, ob_some, lt_parts]
  rfl
theorem t_lplus {C : Cl} (hc : A_lfraction C) (x y : Rat) (h : bz x + bz y ≤ 9000) (h0 : nb (x + y).den ≤ 4900) : mm__law_plus C (fr x) (fr y) = sh (fr (x + y)) := by
  obtain ⟨h1, h2, h3, h4, h5, h6⟩ := parts9 h
  unfold mm__law_plus
  simp only [fr0, fr1, sh_bind, op2_mul h1, op2_mul h2, op2_mul h3, op2_add, ob_some, om_some, List.append_nil]
  rw [hc _ _ h5 h6 (by rw [← add_divInt]; exact h0)]
  simp only [cl1_sh, ← add_divInt, sh_bind]
  rfl
theorem t_lminus {C : Cl} (hc : A_lfraction C) (x y : Rat) (h : bz x + bz y ≤ 9000) (h0 : nb (x - y).den ≤ 4900) : mm__law_minus C (fr x) (fr y) = sh (fr (x - y)) := by
  obtain ⟨h1, h2, h3, h4, h5, h6⟩ := parts9 h
  unfold mm__law_minus
  simp only [fr0, fr1, sh_bind, op2_mul h1, op2_mul h2, op2_mul h3, op2_sub, ob_some, om_some, List.append_nil]
  rw [hc _ _ h5 h6 (by rw [← sub_divInt]; exact h0)]
  simp only [cl1_sh, ← sub_divInt, sh_bind]
  rfl
theorem t_ltimes {C : Cl} (hc : A_lfraction C) (x y : Rat) (h : bz x + bz y ≤ 9000) (h0 : nb (x * y).den ≤ 4900) : mm__law_times C (fr x) (fr y) = sh (fr (x * y)) := by
  obtain ⟨h1, h2, h3, h4, h5, h6⟩ := parts9 h
  unfold mm__law_times
  simp only [fr0, fr1, sh_bind, op2_mul h4, op2_mul h3, ob_some, om_some, List.append_nil]
  rw [hc _ _ h5 h6 (by rw [← mul_divInt]; exact h0)]
  simp only [cl1_sh, ← mul_divInt, sh_bind]
  rfl
theorem t_lover {C : Cl} (hc : A_lfraction C) (x y : Rat) (hy : y ≠ 0) (h : bz x + bz y ≤ 9000) (hz : nb (x / y).den ≤ 4900) : mm__law_over C (fr x) (fr y) = sh (fr (x / y)) := by
  obtain ⟨m1, m2, h0, h4⟩ := partsd h hy
  unfold mm__law_over
  simp only [fr0, fr1, sh_bind, ob_some, om_some, List.append_nil, op2_mul m1, op2_mul m2, List.cons_append, List.nil_append]
  rw [hc _ _ h0 h4 (by rw [← div_divInt']; exact hz), cl1_sh, sh_bind, div_divInt']; rfl
theorem t_lless (C : Cl) (x y : Rat) (h : bz x + bz y ≤ 9000) : mm__law_less C (fr x) (fr y) = sh (.bl (decide (x < y))) := by
  obtain ⟨h1, h2, h3, h4, h5, h6⟩ := parts9 h
  unfold mm__law_less
  simp only [fr0, fr1, sh_bind, op2_mul h1, op2_mul h2, cmpV_def, cmp_lt, ob_some, lt_parts]
  rfl
theorem bz_div (x y : Rat) : bz (x / y) ≤ bz x + bz y := by
  by_cases hy : y = 0
  · subst hy
    have : x / 0 = 0 := by rw [Rat.div_def]; simp
    rw [this]
    have : bz 0 = 1 := by decide +kernel
    have := bz_num x
    have := nb_pos x.num.natAbs
    omega
  · rw [div_divInt']
    have a1 := bz_num x
    have a2 := bz_den x
    have a3 := bz_num y
    have a4 := bz_den y
    have m1 := nb_mulI x.num y.den
    have m2 := nb_mulI x.den y.num
    simp only [Int.natAbs_natCast] at m1 m2
    exact bz_divInt (by omega) (by omega)
/-! ### the same for small fractions -/
def small : Nat := 4000
section
variable {C : Cl} {f : Str}
theorem B_add.s (h : B_add C f) (x y : Rat) (hb : bz x + bz y ≤ 4000) : C f [fr x, fr y] = sh (fr (x + y)) := h x y (by omega) (by have := bz_add x y; have := bz_den (x + y); omega)
theorem B_sub.s (h : B_sub C f) (x y : Rat) (hb : bz x + bz y ≤ 4000) : C f [fr x, fr y] = sh (fr (x - y)) := h x y (by omega) (by have := bz_sub x y; have := bz_den (x - y); omega)
theorem B_mul.s (h : B_mul C f) (x y : Rat) (hb : bz x + bz y ≤ 4000) : C f [fr x, fr y] = sh (fr (x * y)) := h x y (by omega) (by have := bz_mul x y; have := bz_den (x * y); omega)
theorem B_div.s (h : B_div C f) (x y : Rat) (hy : y ≠ 0) (hb : bz x + bz y ≤ 4000) : C f [fr x, fr y] = sh (fr (x / y)) := h x y hy (by omega) (by have := bz_div x y; have := bz_den (x / y); omega)
end
/-! ### points -/
def pt (p : Pt) : PV := .tup [fr p.1, fr p.2]
def poly (P : List Pt) : PV := .lst (P.map pt)
@[simp] theorem pt0 {p : Pt} : ix (pt p) (.int 0) = sh (fr p.1) := ix_t0
@[simp] theorem pt1 {p : Pt} : ix (pt p) (.int 1) = sh (fr p.2) := ix_t1
theorem pt_inj {p q : Pt} : pt p = pt q ↔ p = q := by
  constructor
  · intro h
    unfold pt at h
    injection h with h
    injection h with h1 h2
    injection h2 with h2 _
    exact Prod.ext (fr_inj.mp h1) (fr_inj.mp h2)
  · rintro rfl; rfl
@[simp] theorem pt_pl {p : Pt} : (pt p).pl = true := by simp [pt, PV.pl, PV.pls]
@[simp] theorem pt_dp {p : Pt} : (pt p).dp = 2 := by simp [pt, PV.dp, PV.dps]
@[simp] theorem eqD_pt {p q : Pt} : eqD (pt p) (pt q) = some (decide (p = q)) := by
  rw [eqD_pl pt_pl pt_pl (by simp) (by simp)]
  congr 1
  simp [pt_inj]
theorem pt_flat {p : Pt} : (pt p).flat = true := by simp [pt, PV.flat, PV.flats, fr_flat]
theorem map_pl (P : List Pt) : PV.pls (P.map pt) = true := by
  rw [pls_all]
  intro x hx
  obtain ⟨k, _, rfl⟩ := List.mem_map.mp hx
  exact pt_pl
theorem map_dp (P : List Pt) : PV.dps (P.map pt) ≤ 2 := by
  rw [dps_le]
  intro x hx
  obtain ⟨k, _, rfl⟩ := List.mem_map.mp hx
  simp
theorem map_pt_inj {P Q : List Pt} : P.map pt = Q.map pt ↔ P = Q := ⟨fun h => (List.map_inj_right fun a b e => pt_inj.mp e).mp h, fun h => by rw [h]⟩
theorem eqD_poly {P Q : List Pt} : eqD (poly P) (poly Q) = some (decide (P = Q)) := by
  have h1 := map_dp P
  have h2 := map_dp Q
  rw [eqD_pl (x := poly P) (y := poly Q) (by simp only [poly, PV.pl]; exact map_pl P) (by simp only [poly, PV.pl]; exact map_pl Q) (by simp only [poly, PV.dp]; omega) (by simp only [poly, PV.dp]; omega)]
  congr 1
  have : poly P = poly Q ↔ P = Q := by
    unfold poly
    constructor
    · intro h; injection h with h; exact map_pt_inj.mp h
    · rintro rfl; rfl
  simp [this]
/-- its parts have few bits -/
def Bp (n : Nat) (p : Pt) : Prop := bz p.1 ≤ n ∧ bz p.2 ≤ n
theorem Bp.mono {m n : Nat} {p : Pt} (h : Bp m p) (hm : m ≤ n) : Bp n p := ⟨Nat.le_trans h.1 hm, Nat.le_trans h.2 hm⟩
section
variable {C : Cl} {a b c : Pt} {n : Nat}
theorem bz_turn (ha : Bp n a) (hb : Bp n b) (hc : Bp n c) : bz (turn a b c) ≤ 8 * n + 5 := by
  have h1 := bz_sub b.1 a.1
  have h2 := bz_sub c.2 a.2
  have h3 := bz_sub b.2 a.2
  have h4 := bz_sub c.1 a.1
  have h5 := bz_mul (b.1 - a.1) (c.2 - a.2)
  have h6 := bz_mul (b.2 - a.2) (c.1 - a.1)
  have h7 := bz_sub ((b.1 - a.1) * (c.2 - a.2)) ((b.2 - a.2) * (c.1 - a.1))
  have := ha.1; have := ha.2; have := hb.1; have := hb.2; have := hc.1; have := hc.2
  unfold turn
  omega
theorem t_turn (hm : A_sub C "minus") (ht : A_mul C "times") (ha : Bp 200 a) (hb : Bp 200 b) (hc : Bp 200 c) : mm_turn C (pt a) (pt b) (pt c) = sh (fr (turn a b c)) := by
  have a1 := ha.1; have a2 := ha.2; have b1 := hb.1; have b2 := hb.2; have c1 := hc.1; have c2 := hc.2
  have h1 := bz_sub b.1 a.1
  have h2 := bz_sub c.2 a.2
  have h3 := bz_sub b.2 a.2
  have h4 := bz_sub c.1 a.1
  have h5 := bz_mul (b.1 - a.1) (c.2 - a.2)
  have h6 := bz_mul (b.2 - a.2) (c.1 - a.1)
  unfold mm_turn
  simp only [pt0, pt1, sh_bind, ob_some, om_some, List.append_nil]
  rw [hm _ _ (by omega), hm _ _ (by omega), hm _ _ (by omega), hm _ _ (by omega)]
  simp only [cl1_sh, sh_bind, ob_some, om_some, List.append_nil]
  rw [ht _ _ (by omega), ht _ _ (by omega)]
  simp only [cl1_sh, sh_bind, ob_some, om_some, List.append_nil]
  rw [hm _ _ (by omega)]
  rfl
theorem t_lturn (hm : B_sub C "_law_minus") (ht : B_mul C "_law_times") (ha : Bp 200 a) (hb : Bp 200 b) (hc : Bp 200 c) : mm__law_turn C (pt a) (pt b) (pt c) = sh (fr (turn a b c)) := by
  have a1 := ha.1; have a2 := ha.2; have b1 := hb.1; have b2 := hb.2; have c1 := hc.1; have c2 := hc.2
  have h1 := bz_sub b.1 a.1
  have h2 := bz_sub c.2 a.2
  have h3 := bz_sub b.2 a.2
  have h4 := bz_sub c.1 a.1
  have h5 := bz_mul (b.1 - a.1) (c.2 - a.2)
  have h6 := bz_mul (b.2 - a.2) (c.1 - a.1)
  unfold mm__law_turn
  simp only [pt0, pt1, sh_bind, ob_some, om_some, List.append_nil]
  rw [hm.s _ _ (by omega), hm.s _ _ (by omega), hm.s _ _ (by omega), hm.s _ _ (by omega)]
  simp only [cl1_sh, sh_bind, ob_some, om_some, List.append_nil]
  rw [ht.s _ _ (by omega), ht.s _ _ (by omega)]
  simp only [cl1_sh, sh_bind, ob_some, om_some, List.append_nil]
  rw [hm.s _ _ (by omega)]
  rfl
theorem t_smaller (hl : A_lt C "less") (ha : Bp 200 a) (hb : Bp 200 b) : mm_smaller C (pt a) (pt b) = sh (.bl (decide (lt a b))) := by
  have a1 := ha.1; have a2 := ha.2; have b1 := hb.1; have b2 := hb.2
  unfold mm_smaller
  simp only [pt0, pt1, sh_bind, ob_some, om_some, List.append_nil]
  rw [hl _ _ (by omega), hl _ _ (by omega)]
  simp only [cl1_sh, sh_bind, ob_some, om_some, blOf_bl, cmpV_def, cmp_eq, eqD_fr]
  unfold lt
  by_cases h : a.1 < b.1
  · simp [h]; rfl
  · by_cases g : a.1 = b.1
    · simp [h, g]; rfl
    · simp [h, g]; rfl
end
theorem bz_zero : bz 0 = 1 := by decide +kernel
end K66

/-! Lists; the hull; sides -/
namespace K66
open PySem L2 Pv

/-! ### lists -/
theorem forC_cons {S : Type} {step : PV → S → (S → Out) → (S → Out) → Out} {K : S → Out} {x : PV} {r : List PV} {s : S} : forC step K (x :: r) s = step x s (fun s => forC step K r s) K := nr rfl
theorem forC_nil {S : Type} {step : PV → S → (S → Out) → (S → Out) → Out} {K : S → Out} {s : S} : forC step K [] s = K s := nr rfl
theorem forC_inv {S α β : Type} {step : PV → S → (S → Out) → (S → Out) → Out} {K : S → Out} (em : α → PV) (sm : β → S) (nx : β → α → β) (I : List α → β → Prop)
    (h : ∀ x r b, I (x :: r) b → (∀ kn kb, step (em x) (sm b) kn kb = kn (sm (nx b x))) ∧ I r (nx b x)) : ∀ (xs : List α) (b : β), I xs b → forC step K (xs.map em) (sm b) = K (sm (xs.foldl nx b)) ∧ I [] (xs.foldl nx b)
  | [], b, hb => ⟨rfl, hb⟩
  | x :: r, b, hb => by
    obtain ⟨h1, h2⟩ := h x r b hb
    obtain ⟨h3, h4⟩ := forC_inv em sm nx I h r (nx b x) h2
    refine ⟨?_, h4⟩
    rw [List.map_cons, forC_cons, h1]
    exact h3
theorem forC_inv1 {S α β : Type} {step : PV → S → (S → Out) → (S → Out) → Out} {K : S → Out} (em : α → PV) (sm : β → S) (nx : β → α → β) (I : List α → β → Prop)
    (h : ∀ x r b, I (x :: r) b → (∀ kn kb, step (em x) (sm b) kn kb = kn (sm (nx b x))) ∧ I r (nx b x)) (xs : List α) (b : β) (hI : I xs b) {s0 : S} (h0 : s0 = sm b) : forC step K (xs.map em) s0 = K (sm (xs.foldl nx b)) := by
  subst h0
  exact (forC_inv em sm nx I h xs b hI).1
theorem forC_allP {α : Type} {step : PV → Unit → (Unit → Out) → (Unit → Out) → Out} {K : Unit → Out} {r : Out} (em : α → PV) (ok : α → Bool) : ∀ (xs : List α) (s : Unit),
    (∀ x ∈ xs, ∀ s kn kb, step (em x) s kn kb = if ok x then kn () else r) → forC step K (xs.map em) s = if xs.all ok then K () else r
  | [], s, h => rfl
  | x :: xs, s, h => by
    rw [List.map_cons, forC_cons, h x (List.mem_cons_self ..), List.all_cons]
    cases ok x with
    | true => simp only [if_true, Bool.true_and]; exact forC_allP em ok xs () fun y hy => h y (List.mem_cons_of_mem _ hy)
    | false => rfl
theorem seq_poly {P : List Pt} (h : P.length ≤ 1000000) : seqOf (poly P) = some (P.map pt) := seqOf_lst (by rw [List.length_map]; exact h)
theorem len_poly {P : List Pt} : bltV "len" [poly P] = sh (.int P.length) := by
  unfold poly
  rw [len_lst, List.length_map]
theorem len_map {P : List Pt} : bltV "len" [.lst (P.map pt)] = sh (.int P.length) := len_poly
theorem ix_poly {P : List Pt} {k : Nat} {p : Pt} (h : P[k]? = some p) : ix (poly P) (.int k) = sh (pt p) := ixL (by rw [List.getElem?_map, h]; rfl)
theorem ix_poly0 {p : Pt} {P : List Pt} : ix (poly (p :: P)) (.int 0) = sh (pt p) := ix_poly (k := 0) rfl
theorem ix_neg {xs : List PV} {k : Nat} {x : PV} (h1 : 1 ≤ k) (h2 : k ≤ xs.length) (h : xs[xs.length - k]? = some x) : ix (.lst xs) (.int (-(k : Int))) = sh x := by
  have h3 : atI xs (-(k : Int)) = some x := by
    have : ixN xs.length (-(k : Int)) = some (xs.length - k) := by
      unfold ixN
      rw [if_neg (by omega), if_pos (by omega)]
      congr 1
      omega
    unfold atI
    rw [this]
    exact h
  show (((atI xs (-(k : Int))).bind sh).bind fun z => sh z.1) = _
  rw [h3]
  rfl
theorem ix_top {st : List Pt} {b : Pt} : ix (.lst ((b :: st).reverse.map pt)) (.int (-1)) = sh (pt b) := ix_neg (k := 1) (by omega) (by simp) (by simp)
theorem ix_top2 {st : List Pt} {a b : Pt} : ix (.lst ((b :: a :: st).reverse.map pt)) (.int (-2)) = sh (pt a) := by
  refine ix_neg (k := 2) (by omega) (by simp) ?_
  simp only [List.reverse_cons, List.map_append, List.map_cons, List.map_nil, List.length_append, List.length_map, List.length_reverse, List.length_cons, List.length_nil, List.append_assoc]
  rw [List.getElem?_append_right (by simp)]
  simp
theorem sl_to {xs : List PV} {n : Nat} (h : n ≤ xs.length) : sl (.lst xs) none (some (n : Int)) = sh (.lst (xs.take n)) := by
  have e : cutP xs none (some (n : Int)) = xs.take n := by
    unfold cutP
    rw [HT.sIx_nat, HT.sIx_none, Nat.min_eq_left h]
    simp
  rw [← e]
  rfl
theorem sl_from {xs : List PV} {n : Nat} (h : n ≤ xs.length) : sl (.lst xs) (some (n : Int)) none = sh (.lst (xs.drop n)) := by
  have e : cutP xs (some (n : Int)) none = xs.drop n := by
    unfold cutP
    rw [HT.sIx_nat, HT.sIx_none, Nat.min_eq_left h]
    rw [List.take_of_length_le (by rw [List.length_drop]; omega)]
  rw [← e]
  rfl
theorem sl_but {xs : List PV} : sl (.lst xs) none (some (-1)) = sh (.lst xs.dropLast) := by
  have e : cutP xs none (some (-1)) = xs.dropLast := by
    unfold cutP
    have : HT.sIx xs.length xs.length (some (-1)) = xs.length - 1 := by
      show (if (-1 : Int) < 0 then ((-1 : Int) + (xs.length : Int)).toNat else min (-1 : Int).toNat xs.length) = _
      rw [if_pos (by decide)]
      omega
    rw [this, HT.sIx_none, List.dropLast_eq_take]
    simp
  rw [← e]
  rfl
theorem op2_cat {a b : List PV} (h : a.length + b.length ≤ 1000000) : op2 .Add (.lst a) (.lst b) = sh (.lst (a ++ b)) := by
  show (if a.length + b.length ≤ big then some (PV.lst (a ++ b), true) else none).bind (fun z => sh z.1) = _
  rw [if_pos (show a.length + b.length ≤ big from h)]
  rfl
theorem rev_poly {P : List Pt} : revL (poly P) = sh (poly P.reverse) := by
  unfold poly
  rw [List.map_reverse]
  rfl
/-- a counter that goes up -/
theorem whC_up {test : PV → Option Bool} {step : PV → (PV → Out) → (PV → Out) → Out} {K : PV → Out} (n : Nat) (ht : ∀ k < n, test (.int k) = some true) (hf : test (.int n) = some false)
    (hs : ∀ k < n, ∀ kn kb, step (.int k) kn kb = kn (.int (k + 1 : Nat))) : ∀ (w k : Nat), k ≤ n → n - k < w → whC test step K w (.int k) = K (.int n)
  | 0, k, h1, h2 => absurd h2 (by omega)
  | w + 1, k, h1, h2 => by
    unfold whC
    by_cases h : k = n
    · subst h
      rw [hf]
      rfl
    · rw [ht k (by omega), ob_some, if_pos rfl, hs k (by omega)]
      exact whC_up n ht hf hs w (k + 1) (by omega) (by omega)

/-! ### put_in -/
def lead (p : Pt) : List Pt → Nat
  | [] => 0
  | x :: r => if lt x p then lead p r + 1 else 0
theorem lead_le (p : Pt) : ∀ l, lead p l ≤ l.length
  | [] => Nat.le_refl _
  | x :: r => by
    have := lead_le p r
    simp only [lead]
    split <;> simp <;> omega
theorem lead_lt (p : Pt) : ∀ {l : List Pt} {k : Nat} {x : Pt}, k < lead p l → l[k]? = some x → lt x p
  | y :: r, k, x, h, e => by
    simp only [lead] at h
    split at h
    · cases k with
      | zero => simp at e; subst e; assumption
      | succ k => exact lead_lt p (l := r) (k := k) (by omega) (by simpa using e)
    · omega
theorem lead_at (p : Pt) : ∀ {l : List Pt} {x : Pt}, l[lead p l]? = some x → ¬ lt x p
  | y :: r, x, e => by
    by_cases h : lt y p
    · simp only [lead, h, if_true, List.getElem?_cons_succ] at e
      exact lead_at p e
    · simp only [lead, h, if_false, List.getElem?_cons_zero, Option.some.injEq] at e
      rw [← e]; exact h
theorem putIn_lead (p : Pt) : ∀ (l : List Pt), putIn p l = if l[lead p l]? = some p then l else l.take (lead p l) ++ [p] ++ l.drop (lead p l)
  | [] => by simp [putIn, lead]
  | y :: r => by
    by_cases h : lt y p
    · have ih := putIn_lead p r
      simp only [putIn, lead, h, if_true, List.getElem?_cons_succ]
      rw [ih]
      split
      · rfl
      · simp
    · simp only [putIn, lead, h, if_false, List.getElem?_cons_zero, Option.some.injEq]
      split
      · rfl
      · simp
section
variable {C : Cl}
def S_smaller (C : Cl) : Prop := ∀ a b, Bp 200 a → Bp 200 b → C "smaller" [pt a, pt b] = sh (.bl (decide (lt a b)))
def S_turn (C : Cl) : Prop := ∀ a b c, Bp 200 a → Bp 200 b → Bp 200 c → C "turn" [pt a, pt b, pt c] = sh (fr (turn a b c))
def S_lturn (C : Cl) : Prop := ∀ a b c, Bp 200 a → Bp 200 b → Bp 200 c → C "_law_turn" [pt a, pt b, pt c] = sh (fr (turn a b c))
def S_sign (C : Cl) : Prop := ∀ x, C "sign" [fr x] = sh (.int (sgn x))
theorem t_put_in (hs : S_smaller C) {p : Pt} {row : List Pt} (hp : Bp 200 p) (hr : ∀ x ∈ row, Bp 200 x) (hl : row.length ≤ 1000) : mm_put_in C (pt p) (poly row) = sh (poly (putIn p row)) := by
  unfold mm_put_in
  simp only [jn_def]
  obtain ⟨w, hw⟩ : ∃ w : Nat, w = 100000 := ⟨_, rfl⟩
  rw [← hw]
  have hle := lead_le p row
  have get : ∀ k, k < row.length → ∃ x, row[k]? = some x ∧ Bp 200 x := fun k hk => ⟨row[k], List.getElem?_eq_getElem hk, hr _ (List.getElem_mem hk)⟩
  rw [show (PV.int 0) = PV.int ((0 : Nat) : Int) from rfl]
  rw [whC_up (lead p row) (fun k hk => by
      obtain ⟨x, hx, hb⟩ := get k (by omega)
      simp only [len_poly, sh_bind, cmp_lt, ob_some, ix_poly hx, List.cons_append, List.nil_append, hs x p hb hp, cl1_sh, truth_bl, decide_eq_true (lead_lt p hk hx)]
      rw [show decide ((k : Int) < row.length) = true from decide_eq_true (by omega)]
      rfl) (by
      by_cases h : lead p row < row.length
      · obtain ⟨x, hx, hb⟩ := get _ h
        simp only [len_poly, sh_bind, cmp_lt, ob_some, ix_poly hx, List.cons_append, List.nil_append, hs x p hb hp, cl1_sh, truth_bl, decide_eq_false (lead_at p hx)]
        split <;> rfl
      · simp only [len_poly, sh_bind, cmp_lt, ob_some]
        rw [show decide (((lead p row : Nat) : Int) < row.length) = false from decide_eq_false (by omega)]
        rfl) (fun k hk kn kb => by
      simp only [op2_add, sh_bind]
      rfl) w 0 (by omega) (by omega)]
  rw [putIn_lead]
  simp only [len_poly, sh_bind, cmp_lt, ob_some]
  have hi : intO (.int ((lead p row : Nat) : Int)) = some (some ((lead p row : Nat) : Int)) := rfl
  have hA : ((sl (poly row) none (some ((lead p row : Nat) : Int))).bind fun p18 => op2 .Add p18.1 (.lst [pt p])).bind (fun p19 => (sl (poly row) (some ((lead p row : Nat) : Int)) none).bind fun p21 => op2 .Add p19.1 p21.1) = sh (poly (row.take (lead p row) ++ [p] ++ row.drop (lead p row))) := by
    unfold poly
    rw [sl_to (by simpa using hle), sl_from (by simpa using hle)]
    simp only [sh_bind]
    rw [op2_cat (by simp; omega)]
    simp only [sh_bind]
    rw [op2_cat (by simp; omega)]
    simp
  by_cases h : lead p row < row.length
  · obtain ⟨x, hx, hb⟩ := get _ h
    rw [show decide (((lead p row : Nat) : Int) < row.length) = true from decide_eq_true (by omega)]
    simp only [if_true, ix_poly hx, sh_bind, cmp_eq, eqD_pt, ob_some, hi]
    by_cases hx2 : x = p
    · subst hx2
      simp only [decide_true, if_true, hx]
      rfl
    · have hx3 : ¬ row[lead p row]? = some p := by rw [hx]; simpa using hx2
      simp only [hx2, decide_false, Bool.false_eq_true, if_false, hx3]
      have := congrArg (fun o : Out => o.bind fun p22 => some (p22.1, p22.2)) hA
      simpa [Option.bind_assoc, sh_some] using this
  · have hx3 : ¬ row[lead p row]? = some p := by rw [List.getElem?_eq_none (by omega)]; simp
    rw [show decide (((lead p row : Nat) : Int) < row.length) = false from decide_eq_false (by omega)]
    simp only [Bool.false_eq_true, if_false, ob_some, hi, hx3]
    have := congrArg (fun o : Out => o.bind fun p22 => some (p22.1, p22.2)) hA
    simpa [Option.bind_assoc, sh_some] using this
/-! ### chain, hull -/
theorem sgn_le (x : Rat) : sgn x ≤ 0 ↔ x ≤ 0 := by
  unfold sgn
  split
  · grind
  · split
    · grind
    · grind
theorem sgn_lt (x : Rat) : sgn x < 0 ↔ x < 0 := by
  unfold sgn
  split
  · grind
  · split <;> grind
theorem whC_pop {test : List PV → Option Bool} {step : List PV → (List PV → Out) → (List PV → Out) → Out} {K : List PV → Out} (p : Pt)
    (h0 : test [] = some false) (h1 : ∀ a, test [pt a] = some false)
    (h2 : ∀ b a r, Bp 200 a → Bp 200 b → test ((b :: a :: r).reverse.map pt) = some (decide (turn a b p ≤ 0)))
    (hs : ∀ b r kn kb, step ((b :: r).reverse.map pt) kn kb = kn (r.reverse.map pt)) : ∀ (w : Nat) (st : List Pt), st.length < w → (∀ x ∈ st, Bp 200 x) → whC test step K w (st.reverse.map pt) = K ((popT p st).reverse.map pt)
  | 0, st, h, _ => absurd h (by omega)
  | w + 1, [], _, _ => by
    unfold whC
    rw [List.reverse_nil, List.map_nil, h0]
    rfl
  | w + 1, [a], _, _ => by
    unfold whC
    rw [show ([a].reverse.map pt) = [pt a] from rfl, h1]
    rfl
  | w + 1, b :: a :: r, hl, hb => by
    unfold whC
    rw [h2 b a r (hb a (by simp)) (hb b (by simp)), ob_some]
    by_cases h : turn a b p ≤ 0
    · rw [if_pos (decide_eq_true h), hs]
      have := whC_pop (test := test) (step := step) (K := K) p h0 h1 h2 hs w (a :: r) (by simp at hl ⊢; omega) fun x hx => hb x (List.mem_cons_of_mem _ hx)
      rw [this]
      simp only [popT, h, if_true]
    · rw [if_neg (by simpa using h)]
      simp only [popT, h, if_false]
theorem popT_mem {p : Pt} : ∀ {st : List Pt} {x : Pt}, x ∈ popT p st → x ∈ st
  | b :: a :: r, x, h => by
    simp only [popT] at h
    split at h
    · exact List.mem_cons_of_mem _ (popT_mem h)
    · exact h
  | [], x, h => h
  | [_], x, h => h
theorem popT_len {p : Pt} : ∀ (st : List Pt), (popT p st).length ≤ st.length
  | b :: a :: r => by
    simp only [popT]
    split
    · have := popT_len (p := p) (a :: r)
      simp at this ⊢
      omega
    · exact Nat.le_refl _
  | [] => Nat.le_refl _
  | [_] => Nat.le_refl _
theorem chainS_fold : ∀ (l st : List Pt), chainS l st = l.foldl (fun st p => p :: popT p st) st
  | [], _ => rfl
  | p :: l, st => by simp only [chainS, List.foldl_cons, chainS_fold l]
theorem t_chain (ht : S_turn C) (hg : S_sign C) {row : List Pt} (hr : ∀ x ∈ row, Bp 200 x) (hl : row.length ≤ 1000) : mm_chain C (poly row) = some (poly (chain row), true) := by
  unfold mm_chain
  simp only [jn_def]
  obtain ⟨w, hw⟩ : ∃ w : Nat, w = 100000 := ⟨_, rfl⟩
  rw [← hw, seq_poly (by omega), ob_some]
  rw [forC_inv1 (s0 := ([] : List PV)) pt (fun st : List Pt => st.reverse.map pt) (fun st p => p :: popT p st) (fun r st => (∀ x ∈ r, Bp 200 x) ∧ (∀ x ∈ st, Bp 200 x) ∧ r.length + st.length ≤ 1000) (fun p r st h => ⟨fun kn kb => by
      rw [whC_pop p (by rfl) (fun a => by rfl) (fun b a r' ha hb => by
        simp only [len_map, List.length_reverse, List.length_cons, sh_bind, cmp_gt, ob_some]
        rw [show decide ((1 : Int) < ((r'.length + 1 + 1 : Nat) : Int)) = true from decide_eq_true (by omega)]
        simp only [if_true, ix_top, ix_top2, sh_bind, ob_some, om_some, List.append_nil, ht a b p ha hb (h.1 p (by simp)), cl1_sh, hg (turn a b p), cmp_le]
        congr 1
        exact decide_eq_decide.mpr (sgn_le _)) (fun b r' kn kb => by
        have : popO ((b :: r').reverse.map pt) = some (r'.reverse.map pt) := by
          unfold popO
          rw [if_neg (by simp)]
          simp
        rw [this, ob_some]) w st (by have := h.2.2; simp at this; omega) h.2.1]
      have hp : ((popT p st).reverse.map pt).length < 1000000 := by
        have := popT_len (p := p) st
        have := h.2.2
        simp at this ⊢
        omega
      rw [pushO_ok hp, ob_some]
      simp, ⟨fun x hx => h.1 x (List.mem_cons_of_mem _ hx), fun x hx => by
        rcases List.mem_cons.mp hx with rfl | hx
        · exact h.1 x (by simp)
        · exact h.2.1 x (popT_mem hx), by
        have := popT_len (p := p) st
        have := h.2.2
        simp at this ⊢
        omega⟩⟩) row [] ⟨hr, fun x hx => (nomatch hx), by simpa using hl⟩ rfl]
  rw [← chainS_fold]
  rfl
end
end K66

/-! The hull by the program and by the law -/
namespace K66
open PySem L2 Pv

section
variable {C : Cl}
def S_put_in (C : Cl) : Prop := ∀ p row, Bp 200 p → (∀ x ∈ row, Bp 200 x) → row.length ≤ 1000 → C "put_in" [pt p, poly row] = sh (poly (putIn p row))
def S_chain (C : Cl) : Prop := ∀ row, (∀ x ∈ row, Bp 200 x) → row.length ≤ 1000 → C "chain" [poly row] = some (poly (chain row), true)
theorem putIn_len (p : Pt) : ∀ l, (putIn p l).length ≤ l.length + 1
  | [] => by simp [putIn]
  | x :: r => by
    have := putIn_len p r
    simp only [putIn]
    split
    · simp; omega
    · split <;> simp
theorem chainS_len : ∀ (l st : List Pt), (chainS l st).length ≤ l.length + st.length
  | [], st => by simp [chainS]
  | p :: l, st => by
    have h1 := chainS_len l (p :: popT p st)
    have h2 := popT_len (p := p) st
    simp only [chainS]
    simp at h1 ⊢
    omega
theorem chain_len (row : List Pt) : (chain row).length ≤ row.length := by
  have := chainS_len row []
  unfold chain
  simpa using this
theorem order_len : ∀ (pts row : List Pt), (pts.foldl (fun row p => putIn p row) row).length ≤ row.length + pts.length
  | [], row => by simp
  | p :: pts, row => by
    have h1 := order_len pts (putIn p row)
    have h2 := putIn_len p row
    simp only [List.foldl_cons, List.length_cons]
    omega
theorem t_hull (hp : S_put_in C) (hc : S_chain C) {pts : List Pt} (hb : ∀ x ∈ pts, Bp 200 x) (hl : pts.length ≤ 500) : cl1 (mm_hull C (poly pts)) = sh (poly (hull pts)) := by
  unfold mm_hull
  simp only [jn_def]
  rw [seq_poly (by omega), ob_some]
  rw [forC_inv1 (s0 := PV.lst []) pt poly (fun row p => putIn p row) (fun r row => (∀ x ∈ r, Bp 200 x) ∧ (∀ x ∈ row, Bp 200 x) ∧ r.length + row.length ≤ 500) (fun p r row h => ⟨fun kn kb => by
      have := h.2.2
      rw [hp p row (h.1 p (by simp)) h.2.1 (by simp at this; omega)]
      simp only [cl1_sh, sh_bind], ⟨fun x hx => h.1 x (List.mem_cons_of_mem _ hx), fun x hx => by
        rcases (putIn_mem p row x).mp hx with rfl | hx
        · exact h.1 x (by simp)
        · exact h.2.1 x hx, by
        have := h.2.2
        have := putIn_len p row
        simp at *
        omega⟩⟩) pts [] ⟨hb, fun x hx => (nomatch hx), by simpa using hl⟩ rfl]
  have ho : pts.foldl (fun row p => putIn p row) [] = order pts := rfl
  rw [ho]
  have hm := order_mem pts
  have hol : (order pts).length ≤ 500 := by have := order_len pts []; simp at this; unfold order; omega
  have hob : ∀ x ∈ order pts, Bp 200 x := fun x hx => hb x ((hm x).mp hx)
  rw [hc (order pts) hob (by omega), rev_poly]
  simp only [cl2_own, ob_some, sh_bind, List.append_nil]
  rw [hc (order pts).reverse (fun x hx => hob x (List.mem_reverse.mp hx)) (by simp; omega)]
  have c1 := chain_len (order pts)
  have c2 := chain_len (order pts).reverse
  simp only [List.length_reverse] at c2
  have e1 : cl2 (some (poly (chain (order pts)), true)) = some (poly (chain (order pts)), true) := cl2_own
  have e2 : cl2 (some (poly (chain (order pts).reverse), true)) = some (poly (chain (order pts).reverse), true) := cl2_own
  rw [e1, e2]
  simp only [ob_some]
  unfold poly
  rw [sl_but, sl_but]
  simp only [sh_bind]
  rw [op2_cat (by simp; omega)]
  simp only [sh_bind, len_lst, cmp_gt, ob_some]
  unfold hull filt ring
  simp only [← List.map_dropLast, ← List.map_append, List.length_map]
  by_cases h : 2 < ((chain (order pts)).dropLast ++ (chain (order pts).reverse).dropLast).length
  · rw [if_pos h, show decide ((2 : Int) < (((chain (order pts)).dropLast ++ (chain (order pts).reverse).dropLast).length : Int)) = true from decide_eq_true (by omega)]
    rfl
  · rw [if_neg h, show decide ((2 : Int) < (((chain (order pts)).dropLast ++ (chain (order pts).reverse).dropLast).length : Int)) = false from decide_eq_false (by omega)]
    rfl
/-! ### the law's sides -/
instance (a b c : Pt) : Decidable (bet a b c) := by unfold bet; infer_instance
def okC (a b c : Pt) : Bool := decide (0 ≤ turn a b c) && (!decide (turn a b c = 0) || decide (bet a b c))
def sideB (pts : List Pt) (a b : Pt) : Bool := pts.all (okC a b)
theorem sideB_iff (pts : List Pt) (a b : Pt) : sideB pts a b = true ↔ isSide pts a b := by
  unfold sideB isSide okC
  rw [List.all_eq_true]
  refine forall_congr' fun c => forall_congr' fun _ => ?_
  rw [Bool.and_eq_true, Bool.or_eq_true, decide_eq_true_eq, decide_eq_true_eq]
  constructor
  · rintro ⟨h1, h2⟩
    refine ⟨h1, fun z => ?_⟩
    rcases h2 with h2 | h2
    · simp [z] at h2
    · exact h2
  · rintro ⟨h1, h2⟩
    refine ⟨h1, ?_⟩
    by_cases z : turn a b c = 0
    · exact .inr (h2 z)
    · left; simp [z]
theorem and_bind {β : Type} {p q : Bool} {f : Bool → Option β} : (if p = true then some q else some false).bind f = f (p && q) := by cases p <;> rfl
theorem bet_dec (a b c : Pt) : decide (bet a b c) = ((!(decide (c.1 < a.1) && decide (c.1 < b.1)) && !(decide (a.1 < c.1) && decide (b.1 < c.1))) && (!(decide (c.2 < a.2) && decide (c.2 < b.2)) && !(decide (a.2 < c.2) && decide (b.2 < c.2)))) := by
  have n : ∀ (p q : Prop) [Decidable p] [Decidable q], ((!(decide p && decide q)) = true ↔ ¬ (p ∧ q)) := fun p q _ _ => by
    by_cases hp : p <;> by_cases hq : q <;> simp [hp, hq]
  have e : bet a b c ↔ ((!(decide (c.1 < a.1) && decide (c.1 < b.1)) && !(decide (a.1 < c.1) && decide (b.1 < c.1))) && (!(decide (c.2 < a.2) && decide (c.2 < b.2)) && !(decide (a.2 < c.2) && decide (b.2 < c.2)))) = true := by
    rw [Bool.and_eq_true, Bool.and_eq_true, Bool.and_eq_true, n, n, n, n]
    rfl
  by_cases g : bet a b c
  · rw [decide_eq_true g, e.mp g]
  · rw [decide_eq_false g, Bool.eq_false_iff.mpr fun z => g (e.mpr z)]
theorem rng_two : rng1 (.int 2) = some [.int ((0 : Nat) : Int), .int ((1 : Nat) : Int)] := (rng1_ok (n := 2) (by omega)).trans rfl
theorem t_side (ht : S_lturn C) (hl : A_lt C "_law_less") {pts : List Pt} {a b : Pt} (hb : ∀ x ∈ pts, Bp 200 x) (ha : Bp 200 a) (hb' : Bp 200 b) (hn : pts.length ≤ 1000) : mm__law_is_side C (poly pts) (pt a) (pt b) = sh (.bl (sideB pts a b)) := by
  unfold mm__law_is_side
  simp only [jn_def]
  rw [seq_poly (by omega), ob_some]
  rw [forC_allP pt (okC a b) (r := sh (.bl false)) pts () fun c hc s kn kb => by
    have hcb := hb c hc
    rw [ht a b c ha hb' hcb]
    simp only [cl1_sh, sh_bind, fr0, cmp_lt, ob_some, num_neg_iff, cmp_eq, eqD_int, num_zero_iff]
    unfold okC
    by_cases h1 : turn a b c < 0
    · have : ¬ 0 ≤ turn a b c := by grind
      simp [h1, this]
    · have h1' : 0 ≤ turn a b c := by grind
      simp only [h1, h1', decide_true, decide_false, Bool.false_eq_true, if_false, Bool.true_and]
      by_cases h2 : turn a b c = 0
      · simp only [h2, decide_true, if_true, Bool.not_true, Bool.false_or]
        rw [rng_two, ob_some, forC_cons]
        have l := fun (x y : Rat) (h : bz x + bz y ≤ 400) => hl x y (by omega)
        have a1 := ha.1; have a2 := ha.2; have b1 := hb'.1; have b2 := hb'.2; have c1 := hcb.1; have c2 := hcb.2
        have i0 : ∀ p : Pt, ix (pt p) (.int ((0 : Nat) : Int)) = sh (fr p.1) := fun p => pt0
        have i1 : ∀ p : Pt, ix (pt p) (.int ((1 : Nat) : Int)) = sh (fr p.2) := fun p => pt1
        simp only [i0, i1, forC_cons, forC_nil, sh_bind, ob_some, om_some, List.append_nil]
        rw [l _ _ (by omega), l _ _ (by omega), l _ _ (by omega), l _ _ (by omega), l _ _ (by omega), l _ _ (by omega), l _ _ (by omega), l _ _ (by omega)]
        simp only [cl1_sh, sh_bind, truth_bl, ob_some]
        simp only [and_bind, bet_dec]
        generalize (decide (c.1 < a.1) && decide (c.1 < b.1)) = x1
        generalize (decide (a.1 < c.1) && decide (b.1 < c.1)) = x2
        generalize (decide (c.2 < a.2) && decide (c.2 < b.2)) = x3
        generalize (decide (a.2 < c.2) && decide (b.2 < c.2)) = x4
        cases x1 <;> cases x2 <;> cases x3 <;> cases x4 <;> rfl
      · simp [h2]]
  unfold sideB
  split
  · rename_i h; rw [h]
  · rename_i h; rw [Bool.eq_false_iff.mpr h]
def leastF (best x : Pt) : Pt := if lt x best then x else best
def least (p : Pt) (pts : List Pt) : Pt := pts.foldl leastF p
theorem least_from : ∀ (pts : List Pt) (p : Pt), (least p pts = p ∨ least p pts ∈ pts) ∧ ¬ lt p (least p pts) ∧ ∀ x ∈ pts, ¬ lt x (least p pts)
  | [], p => ⟨.inl rfl, lt_irr p, fun _ h => nomatch h⟩
  | x :: r, p => by
    obtain ⟨h1, h2, h3⟩ := least_from r (leastF p x)
    unfold least at *
    simp only [List.foldl_cons]
    have hq : ¬ lt p (leastF p x) ∧ ¬ lt x (leastF p x) ∧ (leastF p x = p ∨ leastF p x = x) := by
      unfold leastF
      split
      · rename_i h; exact ⟨lt_asym h, lt_irr x, .inr rfl⟩
      · rename_i h; exact ⟨lt_irr p, h, .inl rfl⟩
    have tr : ∀ y : Pt, ¬ lt y (leastF p x) → ¬ lt y (r.foldl leastF (leastF p x)) := fun y hy hz => by
      rcases lt_tri (r.foldl leastF (leastF p x)) (leastF p x) with h | h | h
      · exact hy (lt_tr hz h)
      · rw [h] at hz; exact hy hz
      · exact h2 h
    refine ⟨?_, tr p hq.1, fun y hy => ?_⟩
    · rcases h1 with h1 | h1
      · rw [h1]
        rcases hq.2.2 with h | h
        · exact .inl h
        · rw [h]; exact .inr (by simp)
      · exact .inr (List.mem_cons_of_mem _ h1)
    · rcases List.mem_cons.mp hy with rfl | hy
      · exact tr y hq.2.1
      · exact h3 y hy
theorem t_least (hl : A_lt C "_law_less") {p : Pt} {r : List Pt} (hb : ∀ x ∈ p :: r, Bp 200 x) (hn : (p :: r).length ≤ 1000) : mm__law_least C (poly (p :: r)) = sh (pt (least p (p :: r))) := by
  unfold mm__law_least
  simp only [jn_def, ix_poly0, sh_bind]
  rw [seq_poly (by omega), ob_some]
  rw [forC_inv1 (s0 := pt p) pt pt leastF (fun l b => (∀ x ∈ l, Bp 200 x) ∧ Bp 200 b) (fun x l b h => ⟨fun kn kb => by
      have hx := h.1 x (by simp)
      have a1 := hx.1; have a2 := hx.2; have b1 := h.2.1; have b2 := h.2.2
      simp only [pt0, pt1, sh_bind, ob_some, om_some, List.append_nil]
      rw [hl _ _ (by omega), hl _ _ (by omega)]
      simp only [cl1_sh, sh_bind, truth_bl, ob_some, cmp_eq, eqD_fr]
      unfold leastF lt
      by_cases q1 : x.1 < b.1 <;> by_cases q2 : x.1 = b.1 <;> by_cases q3 : x.2 < b.2 <;> simp [q1, q2, q3], ⟨fun y hy => h.1 y (List.mem_cons_of_mem _ hy), by
      unfold leastF
      split
      · exact h.1 x (by simp)
      · exact h.2⟩⟩) (p :: r) p ⟨hb, hb p (by simp)⟩ rfl]
  rfl
def other (p : Pt) : List Pt → Pt
  | [] => p
  | x :: r => if x = p then other p r else x
theorem other_mem (p : Pt) : ∀ (l : List Pt), other p l = p ∧ (∀ x ∈ l, x = p) ∨ (other p l ∈ l ∧ other p l ≠ p)
  | [] => .inl ⟨rfl, fun _ h => nomatch h⟩
  | x :: r => by
    simp only [other]
    by_cases h : x = p
    · rw [if_pos h]
      rcases other_mem p r with ⟨h1, h2⟩ | ⟨h1, h2⟩
      · exact .inl ⟨h1, fun y hy => by
          rcases List.mem_cons.mp hy with rfl | hy
          · exact h
          · exact h2 y hy⟩
      · exact .inr ⟨List.mem_cons_of_mem _ h1, h2⟩
    · rw [if_neg h]
      exact .inr ⟨by simp, h⟩
theorem t_other {p : Pt} {r : List Pt} (hn : (p :: r).length ≤ 1000) : mm__law_other C (poly (p :: r)) = sh (pt (other p (p :: r))) := by
  unfold mm__law_other
  simp only [jn_def, ix_poly0, sh_bind]
  rw [seq_poly (by omega), ob_some]
  generalize p :: r = l
  have : ∀ (l : List Pt) (s : Unit), forC (fun x9 (s3 : Unit) k7 k8 => (cmp .NotEq x9 (pt p)).bind fun t10 => if t10 then some (x9, false) else k7 ()) (fun (s12 : Unit) => some (pt p, false)) (l.map pt) s = sh (pt (other p l)) := by
    intro l
    induction l with
    | nil => intro s; rfl
    | cons x r ih =>
      intro s
      rw [List.map_cons, forC_cons]
      simp only [cmp_ne, eqD_pt, om_some, ob_some, other]
      by_cases h : x = p
      · simp only [h, decide_true, Bool.not_true, Bool.false_eq_true, if_false, if_true]
        exact ih ()
      · simp only [h, decide_false, Bool.not_false, if_true, if_false]
        rfl
  exact this l ()
end
end K66

/-! The law's hull: what follows what -/
namespace K66
open PySem L2 Pv

/-! ### the dict of what follows -/
def kp (p : Pt) : NestedKey := .tup [.tup [.num p.1.num, .num p.1.den], .tup [.num p.2.num, .num p.2.den]]
theorem keyT_pt (p : Pt) : keyT (pt p) = some (kp p) := by
  have : keyN (pt p) = some (kp p) := by
    simp [pt, fr, keyN, keyNs, kp]
  unfold pt at this ⊢
  unfold keyT
  simp only [this, Option.bind_some]
  rw [if_pos]
  simp [kp, NestedKey.depth, NestedKey.depthAll]
theorem kp_inj {p q : Pt} : kp p = kp q ↔ p = q := by
  constructor
  · intro h
    unfold kp at h
    simp only [NestedKey.tup.injEq, List.cons.injEq, NestedKey.num.injEq, and_true] at h
    obtain ⟨⟨h1, h2⟩, h3, h4⟩ := h
    exact Prod.ext (Rat.ext h1 (by omega)) (Rat.ext h3 (by omega))
  · rintro rfl; rfl
abbrev Dct := List (Pt × Pt)
def dl : Dct → List PV
  | [] => []
  | q :: r => pt q.1 :: pt q.2 :: dl r
def dget (l : Dct) (a : Pt) : Option Pt := match l with
  | [] => none
  | q :: r => if q.1 = a then some q.2 else dget r a
def dmap (a b : Pt) : Dct → Dct
  | [] => []
  | q :: r => (q.1, if q.1 = a then b else q.2) :: dmap a b r
def dput (l : Dct) (a b : Pt) : Dct := if (dget l a).isSome then dmap a b l else l ++ [(a, b)]
theorem dGet_dl (a : Pt) : ∀ l : Dct, dGet (kp a) (dl l) = (dget l a).map pt
  | [] => rfl
  | q :: r => by
    simp only [dl, dGet, dget, keyT_pt, Option.some.injEq, kp_inj, dGet_dl a r]
    split <;> rfl
theorem dMap_dl (a b : Pt) : ∀ l : Dct, dMap (kp a) (pt b) (dl l) = dl (dmap a b l)
  | [] => rfl
  | q :: r => by
    simp only [dl, dMap, dmap, keyT_pt, Option.some.injEq, kp_inj, dMap_dl a b r]
    split <;> rfl
theorem dl_app : ∀ l m : Dct, dl (l ++ m) = dl l ++ dl m
  | [], _ => rfl
  | q :: r, m => by simp only [List.cons_append, dl, dl_app r m]
theorem dl_len : ∀ l : Dct, (dl l).length = 2 * l.length
  | [] => rfl
  | q :: r => by simp only [dl, List.length_cons, dl_len r]; omega
theorem dSet_dl {l : Dct} (h : l.length ≤ 500000) (a b : Pt) : dSet (dl l) (pt a) (pt b) = some (dl (dput l a b)) := by
  unfold dSet
  rw [keyT_pt]
  simp only [Option.bind_some]
  have hb : big = 1000000 := rfl
  rw [if_pos (by rw [dl_len]; omega)]
  unfold dPut dput
  rw [dGet_dl, Option.isSome_map]
  split
  · rw [dMap_dl]
  · rw [dl_app]; rfl
theorem ix_dl {l : Dct} {a b : Pt} (h : dget l a = some b) : ix (.dct (dl l)) (pt a) = sh (pt b) := by
  have e : getIx (.dct (dl l)) (pt a) = sh (pt b) := by
    have : getIx (.dct (dl l)) (pt a) = (keyT (pt a)).bind fun k => (dGet k (dl l)).bind sh := by unfold pt; rfl
    rw [this, keyT_pt]
    simp only [Option.bind_some]
    rw [dGet_dl, h]
    rfl
  show (getIx _ _).bind (fun z => sh z.1) = _
  rw [e]
  rfl
theorem dget_map (a b : Pt) : ∀ (l : Dct) (x : Pt), dget (dmap a b l) x = (dget l x).map fun y => if x = a then b else y
  | [], x => rfl
  | q :: r, x => by
    simp only [dmap, dget]
    by_cases h : q.1 = x
    · rw [if_pos h, if_pos h]
      simp only [Option.map_some, h]
    · rw [if_neg h, if_neg h]
      exact dget_map a b r x
theorem dget_snoc (a b : Pt) : ∀ (l : Dct) (x : Pt), dget (l ++ [(a, b)]) x = match dget l x with | some y => some y | none => if a = x then some b else none
  | [], x => rfl
  | q :: r, x => by
    simp only [List.cons_append, dget]
    by_cases h : q.1 = x
    · rw [if_pos h, if_pos h]
    · rw [if_neg h, if_neg h]
      exact dget_snoc a b r x
theorem dget_put (l : Dct) (a b x : Pt) : dget (dput l a b) x = if x = a then some b else dget l x := by
  unfold dput
  by_cases h : (dget l a).isSome
  · rw [if_pos h, dget_map]
    by_cases e : x = a
    · subst e
      obtain ⟨y, hy⟩ := Option.isSome_iff_exists.mp h
      rw [hy]
      simp
    · simp only [e, if_false]
      cases dget l x <;> rfl
  · rw [if_neg h, dget_snoc]
    have h' : dget l a = none := by simpa using h
    by_cases e : x = a
    · subst e
      rw [h']
    · simp only [e, if_false]
      have : ¬ a = x := fun z => e z.symm
      simp only [this, if_false]
      cases dget l x with
      | none => rfl
      | some _ => rfl
theorem dmap_len (a b : Pt) : ∀ l : Dct, (dmap a b l).length = l.length
  | [] => rfl
  | q :: r => by simp only [dmap, List.length_cons, dmap_len a b r]
theorem dput_len (l : Dct) (a b : Pt) : (dput l a b).length ≤ l.length + 1 := by
  unfold dput
  split
  · rw [dmap_len]; omega
  · simp
/-! ### the loops -/
def next1 (pts : List Pt) (a : Pt) (D : Dct) (b : Pt) : Dct := if (!decide (a = b) && sideB pts a b) = true then dput D a b else D
def next (pts : List Pt) (D : Dct) (a : Pt) : Dct := pts.foldl (next1 pts a) D
def after (pts : List Pt) : Dct := pts.foldl (next pts) []
/-- all that it tells is so -/
def Tells (pts : List Pt) (D : Dct) : Prop := ∀ a b, dget D a = some b → a ≠ b ∧ isSide pts a b ∧ b ∈ pts
theorem next1_tells {pts : List Pt} {a b : Pt} (hb : b ∈ pts) {D : Dct} (h : Tells pts D) : Tells pts (next1 pts a D b) := by
  unfold next1
  split
  · rename_i hc
    rw [Bool.and_eq_true] at hc
    intro x y e
    rw [dget_put] at e
    split at e
    · rename_i hx
      cases e
      subst hx
      exact ⟨by simpa using hc.1, (sideB_iff pts _ _).mp hc.2, hb⟩
    · exact h x y e
  · exact h
theorem next1_keep {pts : List Pt} {a b x : Pt} {D : Dct} (h : (dget D x).isSome) : (dget (next1 pts a D b) x).isSome := by
  unfold next1
  split
  · rw [dget_put]
    split
    · rfl
    · exact h
  · exact h
theorem next_ok {pts : List Pt} {a : Pt} : ∀ (l : List Pt) (D : Dct), (∀ x ∈ l, x ∈ pts) → Tells pts D →
    Tells pts (l.foldl (next1 pts a) D) ∧ (∀ x, (dget D x).isSome → (dget (l.foldl (next1 pts a) D) x).isSome) ∧ ∀ b ∈ l, a ≠ b → isSide pts a b → (dget (l.foldl (next1 pts a) D) a).isSome
  | [], D, _, h => ⟨h, fun _ z => z, fun _ z => nomatch z⟩
  | b :: l, D, hl, h => by
    obtain ⟨h1, h2, h3⟩ := next_ok l (next1 pts a D b) (fun x hx => hl x (List.mem_cons_of_mem _ hx)) (next1_tells (hl b (by simp)) h)
    refine ⟨h1, fun x hx => h2 x (next1_keep hx), fun c hc hne hs => ?_⟩
    rcases List.mem_cons.mp hc with rfl | hc
    · refine h2 a ?_
      unfold next1
      rw [if_pos (by rw [Bool.and_eq_true]; exact ⟨by simpa using hne, (sideB_iff pts a c).mpr hs⟩), dget_put, if_pos rfl]
      rfl
    · exact h3 c hc hne hs
theorem after_ok {pts : List Pt} : ∀ (l : List Pt) (D : Dct), Tells pts D →
    Tells pts (l.foldl (next pts) D) ∧ (∀ x, (dget D x).isSome → (dget (l.foldl (next pts) D) x).isSome) ∧ ∀ a ∈ l, ∀ b ∈ pts, a ≠ b → isSide pts a b → (dget (l.foldl (next pts) D) a).isSome
  | [], D, h => ⟨h, fun _ z => z, fun _ z => nomatch z⟩
  | a :: l, D, h => by
    obtain ⟨g1, g2, g3⟩ := next_ok (a := a) pts D (fun _ z => z) h
    obtain ⟨h1, h2, h3⟩ := after_ok l (next pts D a) g1
    refine ⟨h1, fun x hx => h2 x (g2 x hx), fun c hc b hb hne hs => ?_⟩
    rcases List.mem_cons.mp hc with rfl | hc
    · exact h2 _ (g3 b hb hne hs)
    · exact h3 c hc b hb hne hs
theorem after_get {pts : List Pt} {a b : Pt} (ha : a ∈ pts) (hb : b ∈ pts) (hne : a ≠ b) (hs : isSide pts a b) : dget (after pts) a = some b := by
  obtain ⟨h1, _, h3⟩ := after_ok (pts := pts) pts [] (fun _ _ e => nomatch e)
  obtain ⟨y, hy⟩ := Option.isSome_iff_exists.mp (h3 a ha b hb hne hs)
  obtain ⟨_, g2, g3⟩ := h1 a y hy
  have := side_uniq hs g2 hb g3
  subst this
  exact hy
theorem next1_len {pts : List Pt} {a b : Pt} {D : Dct} : (next1 pts a D b).length ≤ D.length + 1 := by
  unfold next1
  split
  · exact dput_len _ _ _
  · omega
theorem next_len {pts : List Pt} {a : Pt} : ∀ (l : List Pt) (D : Dct), (l.foldl (next1 pts a) D).length ≤ D.length + l.length
  | [], D => by simp
  | b :: l, D => by
    have h1 := next_len (a := a) (pts := pts) l (next1 pts a D b)
    have h2 := next1_len (pts := pts) (a := a) (b := b) (D := D)
    simp only [List.foldl_cons, List.length_cons]
    omega
/-! ### the round -/
theorem forC_upto {S : Type} {step : PV → S → (S → Out) → (S → Out) → Out} {K : S → Out} (inv : Nat → S) (m : Nat) : ∀ (n lo : Nat),
    (∀ k, k < m → ∀ kn kb, step (.int k) (inv k) kn kb = kn (inv (k + 1))) → (∀ kn kb, step (.int m) (inv m) kn kb = kb (inv m)) → lo ≤ m → m < lo + n → forC step K (Pv.intsFrom lo n) (inv lo) = K (inv m)
  | 0, lo, _, _, h1, h2 => absurd h2 (by omega)
  | n + 1, lo, hs, hb, h1, h2 => by
    show step (.int lo) (inv lo) (fun s => forC step K (Pv.intsFrom ((lo : Int) + 1) n) s) K = _
    by_cases h : lo = m
    · subst h
      exact hb _ _
    · rw [hs lo (by omega)]
      have := forC_upto (step := step) (K := K) inv m n (lo + 1) hs hb (by omega) (by omega)
      rw [show ((lo : Int) + 1) = ((lo + 1 : Nat) : Int) by omega, this]
theorem compM_filter {α : Type} {step : PV → Option (Option PV)} (em : α → PV) (ok : α → Bool) : ∀ (l : List α), (∀ x ∈ l, step (em x) = if ok x then some (some (em x)) else some none) → compM step (l.map em) = some ((l.filter ok).map em)
  | [], _ => rfl
  | x :: l, h => by
    simp only [List.map_cons, compM, h x (List.mem_cons_self ..), List.filter_cons]
    rw [compM_filter em ok l fun y hy => h y (List.mem_cons_of_mem _ hy)]
    cases ok x <;> rfl
theorem ch_get {R : Pt → Pt → Prop} : ∀ {l : List Pt} {k : Nat} {a b : Pt}, Ch R l → l[k]? = some a → l[k + 1]? = some b → R a b
  | x :: y :: r, 0, a, b, h, h1, h2 => by
    simp at h1 h2
    rw [← h1, ← h2]
    exact h.1
  | x :: y :: r, k + 1, a, b, h, h1, h2 => ch_get (l := y :: r) (k := k) h.2 (by simpa using h1) (by simpa using h2)
  | [x], k, a, b, _, _, h2 => by simp at h2
  | [], k, a, b, _, h1, _ => by simp at h1
section
variable {C : Cl}
def S_side (C : Cl) : Prop := ∀ pts a b, (∀ x ∈ pts, Bp 200 x) → Bp 200 a → Bp 200 b → pts.length ≤ 1000 → C "_law_is_side" [poly pts, pt a, pt b] = sh (.bl (sideB pts a b))
def S_least (C : Cl) : Prop := ∀ p r, (∀ x ∈ p :: r, Bp 200 x) → (p :: r).length ≤ 1000 → C "_law_least" [poly (p :: r)] = sh (pt (least p (p :: r)))
def S_other (C : Cl) : Prop := ∀ p r, (p :: r).length ≤ 1000 → C "_law_other" [poly (p :: r)] = sh (pt (other p (p :: r)))
theorem ix_last {l : List Pt} {a : Pt} : ix (.lst ((l ++ [a]).map pt)) (.int (-1)) = sh (pt a) := ix_neg (k := 1) (by omega) (by simp) (by simp)
theorem flat_test {pts : List Pt} {p : Pt} {r : List Pt} (h : pts = p :: r) : (pts.filter fun c => !decide (turn p (other p pts) c = 0)) = [] ↔ ∀ a ∈ pts, ∀ b ∈ pts, ∀ c ∈ pts, turn a b c = 0 := by
  rw [List.filter_eq_nil_iff]
  have hp : p ∈ pts := by rw [h]; simp
  constructor
  · intro g
    have g' : ∀ c ∈ pts, turn p (other p pts) c = 0 := fun c hc => by simpa using g c hc
    rcases other_mem p pts with ⟨_, h2⟩ | ⟨h1, h2⟩
    · intro a ha b hb c hc
      rw [h2 a ha, h2 b hb, h2 c hc, turn_aab]
    · intro a ha b hb c hc
      exact on_line (fun z => h2 z.symm) (g' a ha) (g' b hb) (g' c hc)
  · intro g c hc
    have ho : other p pts ∈ pts := by
      rcases other_mem p pts with ⟨h1, _⟩ | ⟨h1, _⟩
      · rw [h1]; exact hp
      · exact h1
    simpa using g p hp _ ho c hc
theorem t_lhull (ht : S_lturn C) (hs : S_side C) (hl : S_least C) (ho : S_other C) {pts : List Pt} {p : Pt} {r : List Pt} (he : pts = p :: r) (hb : ∀ x ∈ pts, Bp 200 x) (hn : pts.length ≤ 100) : mm__law_hull C (poly pts) = some (poly (hull pts), true) := by
  have hp : p ∈ pts := by rw [he]; simp
  have hom : other p pts ∈ pts := by
    rcases other_mem p pts with ⟨h1, _⟩ | ⟨h1, _⟩
    · rw [h1]; exact hp
    · exact h1
  unfold mm__law_hull
  simp only [jn_def]
  rw [seq_poly (by omega), ob_some]
  rw [compM_filter pt (fun c => !decide (turn p (other p pts) c = 0)) pts (fun c hc => by
    have i0 : ix (poly pts) (.int 0) = sh (pt p) := by rw [he]; exact ix_poly0
    have o1 : C "_law_other" [poly pts] = sh (pt (other p pts)) := by
      have := ho p r (by rw [← he]; omega)
      rw [← he] at this
      exact this
    rw [i0, o1]
    simp only [sh_bind, cl1_sh, ob_some, om_some, List.append_nil]
    rw [ht p (other p pts) c (hb p hp) (hb _ hom) (hb c hc)]
    simp only [cl1_sh, sh_bind, fr0, cmp_ne, eqD_int, om_some, ob_some, num_zero_iff])]
  simp only [ob_some, cmp_eq]
  have hq : eqD (.lst ((pts.filter fun c => !decide (turn p (other p pts) c = 0)).map pt)) (.lst []) = some (decide ((pts.filter fun c => !decide (turn p (other p pts) c = 0)) = [])) := eqD_poly (Q := [])
  rw [hq, ob_some]
  by_cases hf : (pts.filter fun c => !decide (turn p (other p pts) c = 0)) = []
  · rw [if_pos (decide_eq_true hf), hull_flat ((flat_test he).mp hf)]
    rfl
  · rw [if_neg (by simpa using hf)]
    have hR := hull_ok (pts := pts) fun z => hf ((flat_test he).mpr z)
    rw [forC_inv1 (s0 := ([] : List PV)) pt dl (next pts) (fun l D => (∀ x ∈ l, x ∈ pts) ∧ D.length + 100 * l.length ≤ 10000) (fun a l D h => ⟨fun kn kb => by
        have hD := h.2
        rw [forC_inv1 (s0 := dl D) pt dl (next1 pts a) (fun l' D' => (∀ x ∈ l', x ∈ pts) ∧ D'.length + l'.length ≤ 10000) (fun b l' D' h' => ⟨fun kn kb => by
            have hD' := h'.2
            simp only [cmp_ne, eqD_pt, om_some, ob_some]
            rw [hs pts a b hb (hb a (h.1 a (by simp))) (hb b (h'.1 b (by simp))) (by omega)]
            simp only [cl1_sh, sh_bind, truth_bl, and_bind]
            unfold next1
            split
            · rw [dSet_dl (by simp at hD'; omega), ob_some]
            · rfl, ⟨fun x hx => h'.1 x (List.mem_cons_of_mem _ hx), by
            have hD' := h'.2
            have := next1_len (pts := pts) (a := a) (b := b) (D := D')
            simp at hD'
            omega⟩⟩) pts D ⟨fun x hx => hx, by simp at hD; omega⟩ rfl]
        rfl, ⟨fun x hx => h.1 x (List.mem_cons_of_mem _ hx), by
        have hD := h.2
        have := next_len (a := a) (pts := pts) pts D
        unfold next
        simp at hD
        omega⟩⟩) pts [] ⟨fun x hx => hx, by simp; omega⟩ rfl]
    rw [show pts.foldl (next pts) [] = after pts from rfl]
    have l1 : C "_law_least" [poly pts] = sh (pt (least p pts)) := by
      have := hl p r (by rw [← he]; exact hb) (by rw [← he]; omega)
      rw [← he] at this
      exact this
    rw [l1]
    simp only [cl1_sh, sh_bind, ob_some, ownO_own, len_poly]
    obtain ⟨h0, t, hH⟩ : ∃ h0 t, hull pts = h0 :: t := by
      cases hh : hull pts with
      | nil => have := hR.len; rw [hh] at this; simp at this
      | cons a b => exact ⟨a, b, rfl⟩
    have hlen := hR.len
    have hmost := hR.most
    have hch := hR.ch h0 t hH
    have hnd := hR.nodup
    -- the least one
    have hls : least p pts = h0 := by
      obtain ⟨g1, g2, g3⟩ := least_from pts p
      have m1 : least p pts ∈ pts := by
        rcases g1 with g1 | g1
        · rw [g1]; exact hp
        · exact g1
      have m2 : h0 ∈ pts := hR.mem h0 (by rw [hH]; simp)
      rcases lt_tri (least p pts) h0 with z | z | z
      · exact absurd z (hR.least h0 t hH _ m1)
      · exact z
      · exact absurd z (g3 h0 m2)
    rw [hls, rng1_ok (by omega), ob_some]
    have step : ∀ k, k < (hull pts).length → ∃ a b, (hull pts)[k]? = some a ∧ (hull pts ++ [h0])[k + 1]? = some b ∧ dget (after pts) a = some b ∧ (b = h0 ↔ k + 1 = (hull pts).length) ∧ b ∈ pts := fun k hk => by
      have e1 : (hull pts)[k]? = some (hull pts)[k] := List.getElem?_eq_getElem hk
      have hk2 : k + 1 < (hull pts ++ [h0]).length := by simp; omega
      have e2 : (hull pts ++ [h0])[k + 1]? = some (hull pts ++ [h0])[k + 1] := List.getElem?_eq_getElem hk2
      have hr := ch_get hch (k := k) (by rw [List.getElem?_append_left hk]; exact e1) e2
      have hbm : (hull pts ++ [h0])[k + 1] ∈ pts := by
        have := List.getElem_mem hk2
        rcases List.mem_append.mp this with z | z
        · exact hR.mem _ z
        · simp only [List.mem_singleton] at z
          rw [z]
          exact hR.mem h0 (by rw [hH]; simp)
      refine ⟨_, _, e1, e2, after_get (hR.mem _ (List.getElem_mem hk)) hbm hr.1 hr.2, ?_, hbm⟩
      constructor
      · intro z
        by_cases q : k + 1 < (hull pts).length
        · exfalso
          rw [List.getElem_append_left q] at z
          have e0 : (hull pts)[0]'(by omega) = h0 := by simp [hH]
          have := (List.getElem_inj hnd).mp (z.trans e0.symm)
          omega
        · omega
      · intro z
        rw [List.getElem_append_right (by omega)]
        simp
    have take_last : ∀ k a, k < (hull pts).length → (hull pts)[k]? = some a → (hull pts).take (k + 1) = (hull pts).take k ++ [a] := fun k a hk e => by
      rw [List.take_add_one, e]
      rfl
    have t0 : ∀ k, 0 < k → ∃ m, (hull pts).take k = h0 :: m := fun k hk => by
      rw [hH]
      cases k with
      | zero => omega
      | succ k => exact ⟨t.take k, rfl⟩
    have fin := forC_upto (K := fun s80 : List PV => some (PV.lst s80, true)) (step := fun x72 (s61 : List PV) k70 k71 => (((ix (.lst s61) (.int (-1))).bind fun p77 => ix (.dct (dl (after pts))) p77.1).bind fun p78 => (ix (.lst s61) (.int 0)).bind fun p79 => eqD p78.1 p79.1).bind fun t73 => if t73 then k71 s61 else ((ix (.lst s61) (.int (-1))).bind fun p74 => ix (.dct (dl (after pts))) p74.1).bind fun p75 => if PV.flat p75.1 then (pushO s61 p75.1).bind fun ys76 => k70 ys76 else none)
      (fun k => ((hull pts).take (k + 1)).map pt) ((hull pts).length - 1) pts.length 0 (fun k hk kn kb => by
        obtain ⟨a, b, e1, e2, e3, e4, e5⟩ := step k (by omega)
        obtain ⟨m, hm⟩ := t0 (k + 1) (by omega)
        have i1 : ix (.lst (((hull pts).take (k + 1)).map pt)) (.int (-1)) = sh (pt a) := by
          rw [take_last k a (by omega) e1]
          exact ix_last
        have i2 : ix (.lst (((hull pts).take (k + 1)).map pt)) (.int 0) = sh (pt h0) := by
          rw [hm]
          exact ix_l0
        have hne : ¬ b = h0 := fun z => by have := e4.mp z; omega
        have eb : (hull pts)[k + 1]? = some b := by
          rw [← e2, List.getElem?_append_left (by omega)]
        rw [i1, i2]
        simp only [sh_bind, ix_dl e3, eqD_pt, ob_some, hne, decide_false, Bool.false_eq_true, if_false, pt_flat, if_true]
        rw [pushO_ok (by simp; omega), ob_some, take_last (k + 1) b (by omega) eb]
        simp) (fun kn kb => by
        obtain ⟨a, b, e1, e2, e3, e4, e5⟩ := step ((hull pts).length - 1) (by omega)
        obtain ⟨m, hm⟩ := t0 ((hull pts).length - 1 + 1) (by omega)
        have i1 : ix (.lst (((hull pts).take ((hull pts).length - 1 + 1)).map pt)) (.int (-1)) = sh (pt a) := by
          rw [take_last _ a (by omega) e1]
          exact ix_last
        have i2 : ix (.lst (((hull pts).take ((hull pts).length - 1 + 1)).map pt)) (.int 0) = sh (pt h0) := by
          rw [hm]
          exact ix_l0
        have heq : b = h0 := e4.mpr (by omega)
        rw [i1, i2]
        simp only [sh_bind, ix_dl e3, eqD_pt, ob_some, heq, decide_true, if_true]) (by omega) (by omega)
    have s1 : [pt h0] = ((hull pts).take (0 + 1)).map pt := by rw [hH]; rfl
    rw [s1]
    refine Eq.trans fin ?_
    rw [show (hull pts).length - 1 + 1 = (hull pts).length by omega, List.take_length]
    rfl
end
end K66

/-! Polygons: areas, cuts -/
namespace K66
open PySem L2 Pv

/-! ### the sides, all the way round -/
def prs : Pt → List Pt → List Side
  | _, [] => []
  | a, b :: r => (a, b) :: prs b r
def sidesOf : List Pt → List Side
  | [] => []
  | a :: r => prs a (r ++ [a])
theorem prs_len : ∀ (l : List Pt) (a : Pt), (prs a l).length = l.length
  | [], _ => rfl
  | b :: r, a => by simp only [prs, List.length_cons, prs_len r b]
theorem sides_len (P : List Pt) : (sidesOf P).length = P.length := by
  cases P with
  | nil => rfl
  | cons a r => simp only [sidesOf, prs_len, List.length_append, List.length_cons, List.length_nil]
theorem prs_get : ∀ (l : List Pt) (a : Pt) (k : Nat) (x y : Pt), (a :: l)[k]? = some x → l[k]? = some y → (prs a l)[k]? = some (x, y)
  | b :: r, a, 0, x, y, h1, h2 => by simp at h1 h2; simp [prs, h1, h2]
  | b :: r, a, k + 1, x, y, h1, h2 => by
    simp only [prs, List.getElem?_cons_succ] at h1 h2 ⊢
    exact prs_get r b k x y h1 h2
  | [], a, k, x, y, _, h2 => by simp at h2
theorem sides_get {P : List Pt} {k : Nat} (h : k < P.length) : ∃ a b, P[k]? = some a ∧ P[(k + 1) % P.length]? = some b ∧ (sidesOf P)[k]? = some (a, b) := by
  cases P with
  | nil => simp at h
  | cons p r =>
    have e1 : (p :: r)[k]? = some (p :: r)[k] := List.getElem?_eq_getElem h
    have hl : (k + 1) % (p :: r).length < (p :: r).length := Nat.mod_lt _ (by simp)
    have e2 : (p :: r)[(k + 1) % (p :: r).length]? = some ((p :: r)[(k + 1) % (p :: r).length]'hl) := List.getElem?_eq_getElem hl
    refine ⟨_, _, e1, e2, ?_⟩
    refine prs_get (r ++ [p]) p k _ _ ?_ ?_
    · rw [show p :: (r ++ [p]) = (p :: r) ++ [p] from rfl, List.getElem?_append_left h]
      exact e1
    · rw [← e2]
      by_cases hk : k + 1 < (p :: r).length
      · rw [Nat.mod_eq_of_lt hk, List.getElem?_cons_succ, List.getElem?_append_left (by simpa using hk)]
      · have : k + 1 = (p :: r).length := by omega
        rw [this, Nat.mod_self]
        have hk2 : k = r.length := by simp at this; omega
        rw [hk2]
        simp
theorem forC_cyc {S β : Type} {step : PV → S → (S → Out) → (S → Out) → Out} {K : S → Out} (P : List Pt) (sm : β → S) (nx : β → Side → β) (b0 : β) (I : Nat → β → Prop) (h0 : I 0 b0)
    (h : ∀ k a b x, P[k]? = some a → P[(k + 1) % P.length]? = some b → (a, b) ∈ sidesOf P → I k x → (∀ kn kb, step (.int (k : Nat)) (sm x) kn kb = kn (sm (nx x (a, b)))) ∧ I (k + 1) (nx x (a, b))) {s0 : S} (hs : s0 = sm b0) :
    forC step K (Pv.intsFrom 0 P.length) s0 = K (sm ((sidesOf P).foldl nx b0)) := by
  have key : ∀ n, n ≤ P.length → I n (((sidesOf P).take n).foldl nx b0) := by
    intro n
    induction n with
    | zero => intro _; simpa using h0
    | succ n ih =>
      intro hn
      obtain ⟨a, b, e1, e2, e3⟩ := sides_get (P := P) (k := n) (by omega)
      rw [List.take_add_one, e3, List.foldl_append]
      exact (h n a b _ e1 e2 (List.mem_of_getElem? e3) (ih (by omega))).2
  have := forC_rng (step := step) (K := K) (s0 := s0) P.length (fun n => sm (((sidesOf P).take n).foldl nx b0)) (by simpa using hs) fun k hk kn kb => by
    obtain ⟨a, b, e1, e2, e3⟩ := sides_get (P := P) hk
    rw [(h k a b _ e1 e2 (List.mem_of_getElem? e3) (key k (by omega))).1, List.take_add_one, e3, List.foldl_append]
    rfl
  rw [this, ← sides_len P, List.take_length]
theorem cyc_inv {β : Type} (P : List Pt) (nx : β → Side → β) (b0 : β) (I : Nat → β → Prop) (h0 : I 0 b0) (h : ∀ k q x, q ∈ sidesOf P → I k x → I (k + 1) (nx x q)) : I P.length ((sidesOf P).foldl nx b0) := by
  have key : ∀ (l : List Side) (k : Nat) (x : β), (∀ q ∈ l, q ∈ sidesOf P) → I k x → I (k + l.length) (l.foldl nx x) := by
    intro l
    induction l with
    | nil => intro k x _ hx; exact hx
    | cons q l ih =>
      intro k x hl hx
      have := ih (k + 1) (nx x q) (fun y hy => hl y (List.mem_cons_of_mem _ hy)) (h k q x (hl q (by simp)) hx)
      rw [List.length_cons, show k + (l.length + 1) = k + 1 + l.length by omega]
      exact this
  have := key (sidesOf P) 0 b0 (fun _ z => z) h0
  rwa [sides_len, Nat.zero_add] at this
theorem clip_fold (s e : Pt) (P : List Pt) : (sidesOf P).foldl (fun l q => l ++ outE s e q.1 q.2) [] = clip s e P := by
  have key : ∀ (bs : List Pt) (a : Pt) (l : List Pt), (prs a bs).foldl (fun l q => l ++ outE s e q.1 q.2) l = l ++ clipP s e a bs := by
    intro bs
    induction bs with
    | nil => intro a l; simp [prs, clipP]
    | cons b bs ih => intro a l; simp only [prs, List.foldl_cons, ih, clipP, List.append_assoc]
  cases P with
  | nil => rfl
  | cons a r =>
    have := key (r ++ [a]) a []
    simpa [sidesOf, clip] using this
theorem sum_fold (G : Fun2) (P : List Pt) : (sidesOf P).foldl (fun x q => x + G q.1 q.2) 0 = sumC G P := by
  have key : ∀ (bs : List Pt) (a : Pt) (x : Rat), (prs a bs).foldl (fun x q => x + G q.1 q.2) x = x + sumP G a bs := by
    intro bs
    induction bs with
    | nil => intro a x; simp only [prs, List.foldl_nil, sumP]; grind
    | cons b bs ih => intro a x; simp only [prs, List.foldl_cons, ih, sumP]; grind
  cases P with
  | nil => rfl
  | cons a r =>
    have := key (r ++ [a]) a 0
    simp only [sidesOf, sumC]
    rw [this]
    grind
theorem sides_mem {P : List Pt} {q : Side} (h : q ∈ sidesOf P) : q.1 ∈ P ∧ q.2 ∈ P := by
  have key : ∀ (bs : List Pt) (a : Pt), ∀ q ∈ prs a bs, q.1 ∈ a :: bs ∧ q.2 ∈ a :: bs := by
    intro bs
    induction bs with
    | nil => intro a q hq; cases hq
    | cons b bs ih =>
      intro a q hq
      rcases List.mem_cons.mp hq with rfl | hq
      · simp
      · obtain ⟨h1, h2⟩ := ih b q hq
        exact ⟨List.mem_cons_of_mem _ h1, List.mem_cons_of_mem _ h2⟩
  cases P with
  | nil => cases h
  | cons a r =>
    obtain ⟨h1, h2⟩ := key (r ++ [a]) a q h
    simp only [List.mem_cons, List.mem_append, List.not_mem_nil, or_false] at h1 h2 ⊢
    grind
/-! ### sizes -/
theorem bz_wh {N B : Nat} {q : Rat} (hN : 0 < N) (hB : 1 ≤ B) (h : Wh ((N : Rat) * q)) (h1 : -(B : Rat) ≤ q) (h2 : q ≤ B) : bz q ≤ nb (N * B) := by
  obtain ⟨n, hn⟩ := h
  have hN' : (0 : Rat) < (N : Rat) := by
    have : ((0 : Nat) : Rat) < (N : Rat) := Rat.natCast_lt_natCast.mpr hN
    simpa using this
  have hq : q = Rat.divInt n (N : Int) := by
    rw [Rat.divInt_eq_div]
    have hc : ((N : Int) : Rat) = (N : Rat) := (natc N).symm
    rw [hc, ← hn]
    have : (N : Rat) ≠ 0 := by grind
    grind
  have hub : (n : Rat) ≤ ((N * B : Nat) : Int) := by
    rw [← hn, ← natc, Rat.natCast_mul]
    exact Rat.mul_le_mul_of_nonneg_left h2 (by grind)
  have hlb : ((-(N * B : Nat) : Int) : Rat) ≤ (n : Rat) := by
    rw [← hn, Rat.intCast_neg, ← natc, Rat.natCast_mul]
    have := Rat.mul_le_mul_of_nonneg_left (a := -(B : Rat)) (b := q) (c := (N : Rat)) h1 (by grind)
    grind
  have u : n ≤ (N * B : Nat) := Rat.intCast_le_intCast.mp hub
  have l : -((N * B : Nat) : Int) ≤ n := Rat.intCast_le_intCast.mp hlb
  rw [hq]
  refine bz_divInt (nb_mono (by omega)) (nb_mono ?_)
  show N ≤ N * B
  exact Nat.le_mul_of_pos_right N hB
/-- the corners are whole multiples of 1/N, in the square, and of few bits -/
structure Gr (N : Nat) (p : Pt) : Prop where
  w1 : Wh ((N : Rat) * p.1)
  w2 : Wh ((N : Rat) * p.2)
  sq : Sq p
  bp : Bp 19 p
/-- a sum of so many turns -/
structure SZ (N k : Nat) (x : Rat) : Prop where
  w : Wh (((N * N : Nat) : Rat) * x)
  lo : -((288 * k : Nat) : Rat) ≤ x
  hi : x ≤ ((288 * k : Nat) : Rat)
def OKN (N : Nat) : Prop := 0 < N ∧ N * N < 2 ^ 4290
theorem SZ.bz {N k : Nat} {x : Rat} (h : SZ N k x) (hN : OKN N) (hk : k ≤ 2 ^ 25) : Pv.bz x ≤ 4326 := by
  have hB : 1 ≤ 288 * k + 1 := by omega
  have c : ((288 * k : Nat) : Rat) ≤ ((288 * k + 1 : Nat) : Rat) := Rat.natCast_le_natCast.mpr (by omega)
  have := bz_wh (N := N * N) (B := 288 * k + 1) (Nat.mul_pos hN.1 hN.1) hB h.w (by have := h.lo; grind) (by have := h.hi; grind)
  refine Nat.le_trans this (nb_le ?_ (by omega))
  have h1 : 288 * k + 1 ≤ 2 ^ 36 := by omega
  have h2 : N * N * (288 * k + 1) ≤ N * N * 2 ^ 36 := Nat.mul_le_mul_left _ h1
  have h3 : N * N * 2 ^ 36 < 2 ^ 4290 * 2 ^ 36 := Nat.mul_lt_mul_of_pos_right hN.2 (by omega)
  rw [← Nat.pow_add] at h3
  omega
theorem SZ.zero (N : Nat) : SZ N 0 0 := ⟨⟨0, by simp⟩, by simp, by simp⟩
theorem natm (N : Nat) : ((N * N : Nat) : Rat) = (N : Rat) * N := Rat.natCast_mul N N
theorem SZ.add {N k j : Nat} {x y : Rat} (h : SZ N k x) (g : SZ N j y) : SZ N (k + j) (x + y) := by
  have e : ((288 * (k + j) : Nat) : Rat) = ((288 * k : Nat) : Rat) + ((288 * j : Nat) : Rat) := by rw [Nat.mul_add, Rat.natCast_add]
  refine ⟨?_, ?_, ?_⟩
  · have := h.w.add g.w
    rw [← Rat.mul_add] at this
    exact this
  · rw [e]; have := h.lo; have := g.lo; grind
  · rw [e]; have := h.hi; have := g.hi; grind
theorem SZ.neg {N k : Nat} {x : Rat} (h : SZ N k x) : SZ N k (-x) := by
  refine ⟨?_, ?_, ?_⟩
  · have := h.w.neg
    rw [← Rat.mul_neg] at this
    exact this
  · have := h.hi; grind
  · have := h.lo; grind
theorem SZ.sub {N k j : Nat} {x y : Rat} (h : SZ N k x) (g : SZ N j y) : SZ N (k + j) (x - y) := by
  rw [Rat.sub_eq_add_neg]
  exact h.add g.neg
theorem prod_le {x y : Rat} (hx : -12 ≤ x ∧ x ≤ 12) (hy : -12 ≤ y ∧ y ≤ 12) : -144 ≤ x * y ∧ x * y ≤ 144 := by
  have a1 := Rat.mul_nonneg (a := 12 - x) (b := 12 - y) (by grind) (by grind)
  have a2 := Rat.mul_nonneg (a := 12 + x) (b := 12 + y) (by grind) (by grind)
  have a3 := Rat.mul_nonneg (a := 12 - x) (b := 12 + y) (by grind) (by grind)
  have a4 := Rat.mul_nonneg (a := 12 + x) (b := 12 - y) (by grind) (by grind)
  constructor <;> grind
theorem c288 : ((288 * 1 : Nat) : Rat) = 288 := rfl
theorem turn_sz {N : Nat} {a b c : Pt} (ha : Gr N a) (hb : Gr N b) (hc : Gr N c) : SZ N 1 (turn a b c) := by
  have s1 := ha.sq; have s2 := hb.sq; have s3 := hc.sq
  unfold Sq at s1 s2 s3
  have p1 := prod_le (x := b.1 - a.1) (y := c.2 - a.2) (by grind) (by grind)
  have p2 := prod_le (x := b.2 - a.2) (y := c.1 - a.1) (by grind) (by grind)
  refine ⟨?_, ?_, ?_⟩
  · have w := ((hb.w1.sub ha.w1).mul (hc.w2.sub ha.w2)).sub ((hb.w2.sub ha.w2).mul (hc.w1.sub ha.w1))
    have e : ((N : Rat) * b.1 - N * a.1) * (N * c.2 - N * a.2) - (N * b.2 - N * a.2) * (N * c.1 - N * a.1) = ((N * N : Nat) : Rat) * turn a b c := by
      rw [natm]
      unfold turn
      generalize (N : Rat) = n
      grind
    rw [← e]
    exact w
  · rw [c288]; unfold turn; grind
  · rw [c288]; unfold turn; grind
theorem area_sz {N : Nat} {a b : Pt} (ha : Gr N a) (hb : Gr N b) : SZ N 1 (area a b) := by
  have s1 := ha.sq; have s2 := hb.sq
  unfold Sq at s1 s2
  have p1 := prod_le (x := a.1) (y := b.2) (by grind) (by grind)
  have p2 := prod_le (x := b.1) (y := a.2) (by grind) (by grind)
  refine ⟨?_, ?_, ?_⟩
  · have w := (ha.w1.mul hb.w2).sub (hb.w1.mul ha.w2)
    have e : ((N : Rat) * a.1) * (N * b.2) - (N * b.1) * (N * a.2) = ((N * N : Nat) : Rat) * area a b := by
      rw [natm]
      unfold area
      generalize (N : Rat) = n
      grind
    rw [← e]
    exact w
  · rw [c288]; unfold area; grind
  · rw [c288]; unfold area; grind
theorem fan_sz {N : Nat} {p : Pt} (hp : Gr N p) : ∀ {l : List Pt}, (∀ x ∈ l, Gr N x) → SZ N l.length (fan p l)
  | [], _ => SZ.zero N
  | [a], _ => by
    have := (SZ.zero N).add (k := 0) (j := 1) (y := 0) ⟨⟨0, by simp⟩, by rw [c288]; grind, by rw [c288]; grind⟩
    show SZ N 1 0
    have e : (0 : Rat) + 0 = 0 := by grind
    rw [e] at this
    exact this
  | a :: b :: r, h => by
    have h1 := turn_sz hp (h a (by simp)) (h b (by simp))
    have h2 := fan_sz hp (l := b :: r) fun x hx => h x (List.mem_cons_of_mem _ hx)
    have := h1.add h2
    rw [Nat.add_comm] at this
    exact this
theorem SZ.mono {N k j : Nat} {x : Rat} (h : SZ N k x) (hk : k ≤ j) : SZ N j x := by
  have c : ((288 * k : Nat) : Rat) ≤ ((288 * j : Nat) : Rat) := Rat.natCast_le_natCast.mpr (by omega)
  exact ⟨h.w, by have := h.lo; grind, by have := h.hi; grind⟩
theorem twice_sz {N : Nat} {P : List Pt} (h : ∀ x ∈ P, Gr N x) : SZ N P.length (twice P) := by
  cases P with
  | nil => exact SZ.zero N
  | cons p r =>
    exact (fan_sz (h p (by simp)) fun x hx => h x (List.mem_cons_of_mem _ hx)).mono (by simp)
/-! ### areas -/
theorem Bp.w {p : Pt} (h : Bp 19 p) : Bp 200 p := h.mono (by omega)
theorem fr_zero : PV.tup [.int 0, .int 1] = fr 0 := rfl
/-- the fan's sum, from the left -/
def fanF (p : Pt) (x : Rat) (q : Side) : Rat := x + turn p q.1 q.2
theorem fan_fold (p : Pt) : ∀ (r : List Pt) (a : Pt) (x : Rat), (prs a r).foldl (fanF p) x = x + fan p (a :: r)
  | [], a, x => by simp only [prs, List.foldl_nil, fan]; grind
  | b :: r, a, x => by
    simp only [prs, List.foldl_cons, fan, fan_fold p r b, fanF]
    grind
theorem rng_from {n : Nat} (h : n ≤ 1000000) : rng2 (.int 1) (.int ((n : Int) + 1)) = some (Pv.intsFrom 1 n) := by
  show (if small62 1 && small62 ((n : Int) + 1) && decide ((((n : Int) + 1) - 1).toNat ≤ big) then some (Pv.intsFrom 1 (((n : Int) + 1) - 1).toNat) else none) = _
  have e : (((n : Int) + 1) - 1).toNat = n := by omega
  have hb : big = 1000000 := rfl
  rw [e, if_pos]
  simp only [Bool.and_eq_true, decide_eq_true_eq]
  refine ⟨⟨by decide, ?_⟩, by omega⟩
  unfold small62
  rw [decide_eq_true_eq]
  have h1 : ((n : Int) + 1).natAbs < 2 ^ 61 := by omega
  exact (Nat.log2_lt (by omega)).mpr h1
section
variable {C : Cl} {N : Nat}
theorem fan_loop {P : List Pt} {p a : Pt} {r : List Pt} (hP : P = p :: a :: r) {step : PV → PV → (PV → Out) → (PV → Out) → Out} {K : PV → Out} (I : Nat → Rat → Prop) (h0 : I 0 0)
    (h : ∀ (k : Nat) u v x, P[k + 1]? = some u → P[k + 2]? = some v → I k x → (∀ kn kb, step (.int ((k : Int) + 1)) (fr x) kn kb = kn (fr (x + turn p u v))) ∧ I (k + 1) (x + turn p u v)) :
    forC step K (Pv.intsFrom 1 r.length) (fr 0) = K (fr (twice P)) := by
  have hl : (prs a r).length = r.length := prs_len r a
  have get : ∀ k, k < r.length → ∃ u v, P[k + 1]? = some u ∧ P[k + 2]? = some v ∧ (prs a r)[k]? = some (u, v) := fun k hk => by
    have e1 : (a :: r)[k]? = some ((a :: r)[k]'(by simp; omega)) := List.getElem?_eq_getElem _
    have e2 : r[k]? = some r[k] := List.getElem?_eq_getElem hk
    exact ⟨_, _, by rw [hP, List.getElem?_cons_succ]; exact e1, by rw [hP, List.getElem?_cons_succ, List.getElem?_cons_succ]; exact e2, prs_get r a k _ _ e1 e2⟩
  have key : ∀ n, n ≤ r.length → I n (((prs a r).take n).foldl (fanF p) 0) := by
    intro n
    induction n with
    | zero => intro _; simpa using h0
    | succ n ih =>
      intro hn
      obtain ⟨u, v, e1, e2, e3⟩ := get n (by omega)
      rw [List.take_add_one, e3, List.foldl_append]
      exact (h n u v _ e1 e2 (ih (by omega))).2
  have gen : ∀ (n lo : Nat), lo + n = r.length → forC step K (Pv.intsFrom ((lo : Int) + 1) n) (fr (((prs a r).take lo).foldl (fanF p) 0)) = K (fr ((prs a r).foldl (fanF p) 0)) := by
    intro n
    induction n with
    | zero =>
      intro lo hlo
      rw [show (prs a r).take lo = prs a r from List.take_of_length_le (by omega)]
      rfl
    | succ n ih =>
      intro lo hlo
      obtain ⟨u, v, e1, e2, e3⟩ := get lo (by omega)
      show step (.int ((lo : Int) + 1)) _ (fun s => forC step K (Pv.intsFrom ((lo : Int) + 1 + 1) n) s) K = _
      rw [(h lo u v _ e1 e2 (key lo (by omega))).1]
      have := ih (lo + 1) (by omega)
      rw [List.take_add_one, e3, List.foldl_append] at this
      exact this
  have := gen r.length 0 (by omega)
  rw [fan_fold] at this
  simp only [List.take_zero, List.foldl_nil] at this
  rw [show ((0 : Nat) : Int) + 1 = 1 from rfl] at this
  rw [this, hP]
  simp only [twice]
  congr 2
  grind
theorem few_rng {n : Int} (h : n ≤ 1) (h2 : -1 ≤ n) : rng2 (.int 1) (.int n) = some [] := by
  show (if small62 1 && small62 n && decide ((n - 1).toNat ≤ big) then some (Pv.intsFrom 1 (n - 1).toNat) else none) = _
  have e : (n - 1).toNat = 0 := by omega
  have : n = 1 ∨ n = 0 ∨ n = -1 := by omega
  rw [e]
  rcases this with rfl | rfl | rfl <;> rfl
theorem t_size_of (ht : S_turn C) (hp : A_add C "plus") (hN : OKN N) {P : List Pt} (hP : ∀ x ∈ P, Gr N x) (hl : P.length ≤ 500000) : mm_size_of C (poly P) = sh (fr (twice P)) := by
  unfold mm_size_of
  simp only [jn_def, len_poly, sh_bind, op2_sub, ob_some]
  rw [fr_zero]
  match P, hP, hl with
  | [], _, _ => rw [few_rng (by simp) (by simp)]; rfl
  | [a], _, _ => rw [few_rng (by simp) (by simp)]; rfl
  | p :: a :: r, hP, hl =>
    have e : ((p :: a :: r).length : Int) - 1 = (r.length : Int) + 1 := by simp only [List.length_cons]; omega
    rw [e, rng_from (by simp at hl; omega), ob_some]
    have gp := hP p (by simp)
    rw [fan_loop (P := p :: a :: r) rfl (fun k x => SZ N k x ∧ k ≤ r.length ∨ False) (.inl ⟨SZ.zero N, by omega⟩) fun k u v x e1 e2 hI => by
      rcases hI with ⟨hI, hk⟩ | hI
      · have gu := hP u (List.mem_of_getElem? e1)
        have gv := hP v (List.mem_of_getElem? e2)
        have hk2 : k + 2 < (p :: a :: r).length := (List.getElem?_eq_some_iff.mp e2).1
        simp only [List.length_cons] at hk2 hl
        have sz := turn_sz gp gu gv
        have b1 := hI.bz hN (by omega)
        have b2 := bz_turn gp.bp gu.bp gv.bp
        refine ⟨fun kn kb => ?_, .inl ⟨hI.add sz, by omega⟩⟩
        rw [show ((k : Int) + 1) = ((k + 1 : Nat) : Int) by omega]
        simp only [ix_poly0, ix_poly e1, sh_bind, op2_add, ob_some, om_some, List.append_nil]
        rw [show (((k + 1 : Nat) : Int) + 1) = ((k + 2 : Nat) : Int) by omega, ix_poly e2]
        simp only [sh_bind, ob_some, om_some, List.append_nil]
        rw [ht p u v gp.bp.w gu.bp.w gv.bp.w]
        simp only [cl1_sh, sh_bind, ob_some, om_some, List.append_nil]
        rw [hp _ _ (by omega)]
        simp only [cl1_sh, sh_bind]
      · exact hI.elim]
    rfl
theorem t_ltwice (ht : S_lturn C) (hp : B_add C "_law_plus") (hN : OKN N) {P : List Pt} (hP : ∀ x ∈ P, Gr N x) (hl : P.length ≤ 500000) : mm__law_twice C (poly P) = sh (fr (twice P)) := by
  unfold mm__law_twice
  simp only [jn_def, len_poly, sh_bind, op2_sub, ob_some]
  rw [fr_zero]
  match P, hP, hl with
  | [], _, _ => rw [few_rng (by simp) (by simp)]; rfl
  | [a], _, _ => rw [few_rng (by simp) (by simp)]; rfl
  | p :: a :: r, hP, hl =>
    have e : ((p :: a :: r).length : Int) - 1 = (r.length : Int) + 1 := by simp only [List.length_cons]; omega
    rw [e, rng_from (by simp at hl; omega), ob_some]
    have gp := hP p (by simp)
    rw [fan_loop (P := p :: a :: r) rfl (fun k x => SZ N k x ∧ k ≤ r.length ∨ False) (.inl ⟨SZ.zero N, by omega⟩) fun k u v x e1 e2 hI => by
      rcases hI with ⟨hI, hk⟩ | hI
      · have gu := hP u (List.mem_of_getElem? e1)
        have gv := hP v (List.mem_of_getElem? e2)
        have hk2 : k + 2 < (p :: a :: r).length := (List.getElem?_eq_some_iff.mp e2).1
        simp only [List.length_cons] at hk2 hl
        have sz := turn_sz gp gu gv
        have b1 := hI.bz hN (by omega)
        have b2 := bz_turn gp.bp gu.bp gv.bp
        have b3 := (hI.add sz).bz hN (by omega)
        have b4 := bz_den (x + turn p u v)
        refine ⟨fun kn kb => ?_, .inl ⟨hI.add sz, by omega⟩⟩
        rw [show ((k : Int) + 1) = ((k + 1 : Nat) : Int) by omega]
        simp only [ix_poly0, ix_poly e1, sh_bind, op2_add, ob_some, om_some, List.append_nil]
        rw [show (((k + 1 : Nat) : Int) + 1) = ((k + 2 : Nat) : Int) by omega, ix_poly e2]
        simp only [sh_bind, ob_some, om_some, List.append_nil]
        rw [ht p u v gp.bp.w gu.bp.w gv.bp.w]
        simp only [cl1_sh, sh_bind, ob_some, om_some, List.append_nil]
        rw [hp _ _ (by omega) (by omega)]
        simp only [cl1_sh, sh_bind]
      · exact hI.elim]
    rfl
end
end K66

/-! Cuts -/
namespace K66
open PySem L2 Pv

section
variable {C : Cl} {N : Nat}
theorem mod_ix {k n : Nat} (h : 0 < n) : (op2 .Add (.int (k : Nat)) (.int 1)).bind (fun p => op2 .Mod p.1 (.int (n : Nat))) = sh (.int (((k + 1) % n : Nat) : Int)) := by
  rw [op2_add, sh_bind]
  show op2 .Mod (.int ((k : Int) + 1)) (.int n) = _
  rw [op2_mods (by omega)]
  congr 2
theorem t_shoelace (ht : B_mul C "_law_times") (hm : B_sub C "_law_minus") (hp : B_add C "_law_plus") (hN : OKN N) {P : List Pt} (hP : ∀ x ∈ P, Gr N x) (hl : P.length ≤ 100000) : mm__law_shoelace C (poly P) = sh (fr (sumC area P)) := by
  unfold mm__law_shoelace
  simp only [jn_def, len_poly, sh_bind, ob_some]
  rw [rng1_ok (by omega), ob_some, fr_zero]
  rw [forC_cyc (s0 := fr 0) P fr (fun x q => x + area q.1 q.2) 0 (fun k x => SZ N k x ∧ k ≤ P.length) ⟨SZ.zero N, by omega⟩ (fun k a b x e1 e2 hm' hI => by
    have ga := hP a (List.mem_of_getElem? e1)
    have gb := hP b (List.mem_of_getElem? e2)
    have hk : k < P.length := (List.getElem?_eq_some_iff.mp e1).1
    have sz := area_sz ga gb
    have b1 := hI.1.bz hN (by omega)
    have b3 := (hI.1.add sz).bz hN (by omega)
    have b4 := bz_den (x + area a b)
    have a1 := ga.bp.1; have a2 := ga.bp.2; have c1 := gb.bp.1; have c2 := gb.bp.2
    have m1 := bz_mul a.1 b.2
    have m2 := bz_mul b.1 a.2
    have b5 : bz (area a b) ≤ 80 := by have := bz_sub (a.1 * b.2) (b.1 * a.2); unfold area; omega
    refine ⟨fun kn kb => ?_, ⟨hI.1.add sz, by omega⟩⟩
    simp only [ix_poly e1, sh_bind]
    rw [mod_ix (by omega)]
    simp only [ix_poly e2, sh_bind, pt0, pt1, ob_some, om_some, List.append_nil]
    rw [ht.s _ _ (by omega), ht.s _ _ (by omega)]
    simp only [cl1_sh, sh_bind, ob_some, om_some, List.append_nil]
    rw [hm.s _ _ (by omega)]
    simp only [cl1_sh, sh_bind, ob_some, om_some, List.append_nil]
    rw [show a.1 * b.2 - b.1 * a.2 = area a b from rfl, hp _ _ (by omega) (by omega)]
    simp only [cl1_sh, sh_bind]) rfl]
  rw [sum_fold]
  rfl
/-! ### crossings -/
theorem crossP_eq (a b : Pt) (p q : Rat) : PV.tup [fr (a.1 + p / (p - q) * (b.1 - a.1)), fr (a.2 + p / (p - q) * (b.2 - a.2))] = pt (crossP a b p q) := rfl
theorem comp_two {step : PV → Option (Option PV)} {x y : PV} (h0 : step (.int ((0 : Nat) : Int)) = some (some x)) (h1 : step (.int ((1 : Nat) : Int)) = some (some y)) :
    compM step [.int ((0 : Nat) : Int), .int ((1 : Nat) : Int)] = some [x, y] := by
  simp only [compM, h0, h1, ob_some, om_some]
theorem i0 (p : Pt) : ix (pt p) (.int ((0 : Nat) : Int)) = sh (fr p.1) := pt0
theorem i1 (p : Pt) : ix (pt p) (.int ((1 : Nat) : Int)) = sh (fr p.2) := pt1
theorem bz_part {p q : Rat} (hp : bz p ≤ 170) (hq : bz q ≤ 170) : bz (p - q) ≤ 341 ∧ bz (p / (p - q)) ≤ 511 := by
  have h1 := bz_sub p q
  have h2 := bz_div p (p - q)
  omega
theorem t_crossing (hm : A_sub C "minus") (ho : A_div C "over") (ht : A_mul C "times") (hp : A_add C "plus") {a b : Pt} {p q : Rat} (ha : Bp 19 a) (hb : Bp 19 b) (bp : bz p ≤ 170) (bq : bz q ≤ 170) (hne : p ≠ q) :
    mm_crossing C (pt a) (pt b) (fr p) (fr q) = sh (pt (crossP a b p q)) := by
  obtain ⟨s1, s2⟩ := bz_part bp bq
  have a1 := ha.1; have a2 := ha.2; have b1 := hb.1; have b2 := hb.2
  have d1 := bz_sub b.1 a.1
  have d2 := bz_sub b.2 a.2
  have m1 := bz_mul (p / (p - q)) (b.1 - a.1)
  have m2 := bz_mul (p / (p - q)) (b.2 - a.2)
  have hz : p - q ≠ 0 := fun z => hne (by grind)
  unfold mm_crossing
  rw [hm p q (by omega)]
  simp only [cl1_sh, sh_bind, ob_some, om_some, List.append_nil]
  rw [ho p (p - q) hz (by omega)]
  simp only [cl1_sh, sh_bind]
  rw [rng_two, ob_some]
  rw [comp_two (x := fr (a.1 + p / (p - q) * (b.1 - a.1))) (y := fr (a.2 + p / (p - q) * (b.2 - a.2))) (by
    simp only [i0, sh_bind, ob_some, om_some, List.append_nil]
    rw [hm _ _ (by omega)]
    simp only [cl1_sh, sh_bind, ob_some, om_some, List.append_nil]
    rw [ht _ _ (by omega)]
    simp only [cl1_sh, sh_bind, ob_some, om_some, List.append_nil]
    rw [hp _ _ (by omega)]
    simp only [cl1_sh, sh_bind]) (by
    simp only [i1, sh_bind, ob_some, om_some, List.append_nil]
    rw [hm _ _ (by omega)]
    simp only [cl1_sh, sh_bind, ob_some, om_some, List.append_nil]
    rw [ht _ _ (by omega)]
    simp only [cl1_sh, sh_bind, ob_some, om_some, List.append_nil]
    rw [hp _ _ (by omega)]
    simp only [cl1_sh, sh_bind])]
  simp only [ob_some, tuple_lst, sh_bind]
  rw [crossP_eq]
  rfl
def S_crossing (C : Cl) : Prop := ∀ a b p q, Bp 19 a → Bp 19 b → bz p ≤ 170 → bz q ≤ 170 → p ≠ q → C "crossing" [pt a, pt b, fr p, fr q] = sh (pt (crossP a b p q))
theorem sgn_mul (x y : Rat) : sgn x * sgn y < 0 ↔ x * y < 0 := by
  rcases tri x 0 with hx | hx | hx <;> rcases tri y 0 with hy | hy | hy
  · have := mul_nn (x := x) (y := y) (by grind) (by grind)
    have e1 : sgn x = -1 := by unfold sgn; rw [if_pos hx]
    have e2 : sgn y = -1 := by unfold sgn; rw [if_pos hy]
    rw [e1, e2]; constructor <;> intro h <;> first | omega | grind
  · have e2 : sgn y = 0 := by rw [hy]; rfl
    rw [e2, hy]; constructor <;> intro h <;> first | omega | grind
  · have := mul_neg_of hx hy
    have e1 : sgn x = -1 := by unfold sgn; rw [if_pos hx]
    have e2 : sgn y = 1 := by unfold sgn; rw [if_neg (by grind), if_pos hy]
    rw [e1, e2]; constructor <;> intro h <;> first | omega | grind
  · have e2 : sgn x = 0 := by rw [hx]; rfl
    rw [e2, hx]; constructor <;> intro h <;> first | omega | grind
  · have e2 : sgn x = 0 := by rw [hx]; rfl
    rw [e2, hx]; constructor <;> intro h <;> first | omega | grind
  · have e2 : sgn x = 0 := by rw [hx]; rfl
    rw [e2, hx]; constructor <;> intro h <;> first | omega | grind
  · have := mul_neg_of hy hx
    have e1 : sgn x = 1 := by unfold sgn; rw [if_neg (by grind), if_pos hx]
    have e2 : sgn y = -1 := by unfold sgn; rw [if_pos hy]
    rw [e1, e2]; constructor <;> intro h <;> first | omega | grind
  · have e2 : sgn y = 0 := by rw [hy]; rfl
    rw [e2, hy]; constructor <;> intro h <;> first | omega | grind
  · have := Rat.mul_pos hx hy
    have e1 : sgn x = 1 := by unfold sgn; rw [if_neg (by grind), if_pos hx]
    have e2 : sgn y = 1 := by unfold sgn; rw [if_neg (by grind), if_pos hy]
    rw [e1, e2]; constructor <;> intro h <;> first | omega | grind
theorem mulOk_sgn (x y : Rat) : mulOk (sgn x) (sgn y) = true := by
  have h : ∀ z : Rat, sgn z = -1 ∨ sgn z = 0 ∨ sgn z = 1 := fun z => by
    unfold sgn
    by_cases h : z < 0
    · simp [h]
    · by_cases g : 0 < z <;> simp [h, g]
  rcases h x with e | e | e <;> rcases h y with g | g | g <;> rw [e, g] <;> decide
theorem num_nn (x : Rat) : 0 ≤ x.num ↔ 0 ≤ x := by
  have := num_neg_iff x
  constructor
  · intro h
    by_cases z : x < 0
    · have := this.mpr z; omega
    · grind
  · intro h
    by_cases z : x.num < 0
    · have := this.mp z; grind
    · omega
theorem nat_cast0 {n : Nat} : (decide ((0 : Int) ≤ n)) = true := decide_eq_true (by omega)
/-- what one side gives -/
theorem outE_push {s e a b : Pt} {l : List Pt} (h : l.length < 900000) : (if 0 ≤ turn s e a then pushO (l.map pt) (pt a) else some (l.map pt)).bind (fun l1 => if turn s e a * turn s e b < 0 then pushO l1 (pt (crossP a b (turn s e a) (turn s e b))) else some l1) = some ((l ++ outE s e a b).map pt) := by
  unfold outE
  by_cases h1 : 0 ≤ turn s e a
  · rw [if_pos h1, if_pos h1, pushO_ok (by simpa using by omega), ob_some]
    by_cases h2 : turn s e a * turn s e b < 0
    · rw [if_pos h2, if_pos h2, pushO_ok (by simp; omega)]; simp
    · rw [if_neg h2, if_neg h2]; simp
  · rw [if_neg h1, if_neg h1, ob_some]
    by_cases h2 : turn s e a * turn s e b < 0
    · rw [if_pos h2, if_pos h2, pushO_ok (by simpa using by omega)]; simp
    · rw [if_neg h2, if_neg h2]; simp
theorem outE_len (s e a b : Pt) : (outE s e a b).length ≤ 2 := by
  unfold outE
  rw [List.length_append]
  have : (if 0 ≤ turn s e a then [a] else []).length ≤ 1 := by split <;> simp
  have : (if turn s e a * turn s e b < 0 then [crossP a b (turn s e a) (turn s e b)] else []).length ≤ 1 := by split <;> simp
  omega
theorem t_left_of (ht : S_turn C) (hg : S_sign C) (hc : S_crossing C) {P : List Pt} {s e : Pt} (hP : ∀ x ∈ P, Bp 19 x) (hs : Bp 19 s) (he : Bp 19 e) (hl : P.length ≤ 400000) : cl1 (mm_left_of C (poly P) (pt s) (pt e)) = sh (poly (leftOf (s, e) P)) := by
  unfold mm_left_of
  simp only [jn_def]
  rw [seq_poly (by omega), ob_some]
  rw [compM_map (em := pt) (g := fun x => fr (turn s e x)) P (fun x hx => by
    rw [ht s e x hs.w he.w (hP x hx).w]
    simp only [cl1_sh, sh_bind])]
  simp only [ob_some, ownO_own, len_poly, sh_bind]
  rw [rng1_ok (by omega), ob_some]
  have am : ∀ {k a}, P[k]? = some a → ix (.lst (P.map fun x => fr (turn s e x))) (.int (k : Nat)) = sh (fr (turn s e a)) := fun {k a} h => ixL (by rw [List.getElem?_map, h]; rfl)
  rw [forC_cyc (s0 := ([] : List PV)) P (fun l : List Pt => l.map pt) (fun l q => l ++ outE s e q.1 q.2) [] (fun k l => l.length ≤ 2 * k ∧ k ≤ P.length) ⟨by simp, by omega⟩ (fun k a b l e1 e2 hq hI => by
    have hk : k < P.length := (List.getElem?_eq_some_iff.mp e1).1
    have ba := hP a (List.mem_of_getElem? e1)
    have bb := hP b (List.mem_of_getElem? e2)
    refine ⟨fun kn kb => ?_, by have := outE_len s e a b; simp only [List.length_append]; omega, by omega⟩
    have hpush := outE_push (s := s) (e := e) (a := a) (b := b) (l := l) (by omega)
    rw [mod_ix (by omega)]
    simp only [sh_bind, am e1, am e2, fr0, cmp_ge, ob_some, num_nn, ix_poly e1, ix_poly e2, om_some, List.append_nil, hg, cl1_sh]
    rw [hg (turn s e a), hg (turn s e b)]
    simp only [cl1_sh, sh_bind]
    rw [op2_mul (mulOk_sgn _ _)]
    simp only [sh_bind, cmp_lt, ob_some]
    have hcr : turn s e a * turn s e b < 0 → C "crossing" [pt a, pt b, fr (turn s e a), fr (turn s e b)] = sh (pt (crossP a b (turn s e a) (turn s e b))) := fun h =>
      hc a b _ _ ba bb (by have := bz_turn hs he ba; omega) (by have := bz_turn hs he bb; omega) (cross_neg h)
    by_cases h1 : 0 ≤ turn s e a
    · rw [if_pos h1] at hpush
      simp only [h1, decide_true, if_true]
      obtain ⟨l1, e3, hpush⟩ := Option.bind_eq_some_iff.mp hpush
      rw [e3, ob_some]
      by_cases h2 : turn s e a * turn s e b < 0
      · rw [if_pos h2] at hpush
        rw [if_pos (decide_eq_true ((sgn_mul _ _).mpr h2)), hcr h2]
        simp only [cl1_sh, sh_bind]
        rw [hpush, ob_some]
      · rw [if_neg h2] at hpush
        rw [if_neg (by rw [decide_eq_true_eq, sgn_mul]; exact h2)]
        cases hpush
        rfl
    · rw [if_neg h1, ob_some] at hpush
      simp only [h1, decide_false, Bool.false_eq_true, if_false]
      by_cases h2 : turn s e a * turn s e b < 0
      · rw [if_pos h2] at hpush
        rw [if_pos (decide_eq_true ((sgn_mul _ _).mpr h2)), hcr h2]
        simp only [cl1_sh, sh_bind]
        rw [hpush, ob_some]
      · rw [if_neg h2] at hpush
        rw [if_neg (by rw [decide_eq_true_eq, sgn_mul]; exact h2)]
        have := Option.some.inj hpush
        rw [← this]) rfl]
  rw [clip_fold, len_map]
  simp only [sh_bind, cmp_gt, ob_some]
  unfold leftOf filt
  by_cases h : 2 < (clip s e P).length
  · rw [if_pos h, show decide ((2 : Int) < ((clip s e P).length : Int)) = true from decide_eq_true (by omega)]
    rfl
  · rw [if_neg h, show decide ((2 : Int) < ((clip s e P).length : Int)) = false from decide_eq_false (by omega)]
    rfl
theorem t_lclip (ht : S_lturn C) (hm : B_sub C "_law_minus") (ho : B_div C "_law_over") (htm : B_mul C "_law_times") (hp : B_add C "_law_plus") {P : List Pt} {s e : Pt} (hP : ∀ x ∈ P, Bp 19 x) (hs : Bp 19 s) (he : Bp 19 e) (hl : P.length ≤ 400000) :
    mm__law_clip C (poly P) (pt s) (pt e) = some (poly (clip s e P), true) := by
  unfold mm__law_clip
  simp only [jn_def, len_poly, sh_bind]
  rw [rng1_ok (by omega), ob_some]
  rw [forC_cyc (s0 := ([] : List PV)) P (fun l : List Pt => l.map pt) (fun l q => l ++ outE s e q.1 q.2) [] (fun k l => l.length ≤ 2 * k ∧ k ≤ P.length) ⟨by simp, by omega⟩ (fun k a b l e1 e2 hq hI => by
    have hk : k < P.length := (List.getElem?_eq_some_iff.mp e1).1
    have ba := hP a (List.mem_of_getElem? e1)
    have bb := hP b (List.mem_of_getElem? e2)
    refine ⟨fun kn kb => ?_, by have := outE_len s e a b; simp only [List.length_append]; omega, by omega⟩
    have hpush := outE_push (s := s) (e := e) (a := a) (b := b) (l := l) (by omega)
    have z1 : bz (turn s e a) ≤ 170 := by have := bz_turn hs he ba; omega
    have z2 : bz (turn s e b) ≤ 170 := by have := bz_turn hs he bb; omega
    obtain ⟨s1, s2⟩ := bz_part z1 z2
    have a1 := ba.1; have a2 := ba.2; have b1 := bb.1; have b2 := bb.2
    have d1 := bz_sub b.1 a.1
    have d2 := bz_sub b.2 a.2
    have m1 := bz_mul (turn s e a / (turn s e a - turn s e b)) (b.1 - a.1)
    have m2 := bz_mul (turn s e a / (turn s e a - turn s e b)) (b.2 - a.2)
    rw [mod_ix (by omega)]
    simp only [sh_bind, ix_poly e1, ix_poly e2]
    rw [ht s e a hs.w he.w ba.w, ht s e b hs.w he.w bb.w]
    simp only [cl1_sh, sh_bind, fr0, cmp_ge, ob_some, num_nn]
    rw [op2_mul (mulOk_nb (by have := bz_num (turn s e a); have := bz_num (turn s e b); omega))]
    simp only [sh_bind, cmp_lt, ob_some]
    have hnum : ((turn s e a).num * (turn s e b).num < 0) ↔ turn s e a * turn s e b < 0 := by
      rw [← num_neg_iff (turn s e a * turn s e b), Rat.num_mul]
      have hg : (0 : Int) < ((turn s e a).num * (turn s e b).num).natAbs.gcd ((turn s e a).den * (turn s e b).den) := by
        have : 0 < (turn s e a).den * (turn s e b).den := Nat.mul_pos (turn s e a).den_pos (turn s e b).den_pos
        have := Nat.gcd_pos_of_pos_right ((turn s e a).num * (turn s e b).num).natAbs this
        omega
      constructor
      · intro h
        exact Int.ediv_neg_of_neg_of_pos h hg
      · intro h
        by_cases z : 0 ≤ (turn s e a).num * (turn s e b).num
        · have := Int.ediv_nonneg z (Int.le_of_lt hg); omega
        · omega
    have cross : turn s e a * turn s e b < 0 → ∀ K' : PV → Out, ((((cl1 (C "_law_minus" [fr (turn s e a), fr (turn s e b)])).bind fun p67 => some [p67.1]).map fun q68 => fr (turn s e a) :: q68).bind fun q69 => cl1 (C "_law_over" (q69 ++ []))).bind (fun p70 => ((((rng1 (.int 2)).bind fun xs73 => (compM (fun x71 => (((ix (pt a) x71).bind fun p82 => (((((((ix (pt b) x71).bind fun p75 => ((ix (pt a) x71).bind fun p74 => some [p74.1]).map fun q76 => p75.1 :: q76).bind fun q77 => cl1 (C "_law_minus" (q77 ++ []))).bind fun p78 => some [p78.1]).map fun q79 => p70.1 :: q79).bind fun q80 => cl1 (C "_law_times" (q80 ++ []))).bind fun p81 => some [p81.1]).map fun q83 => p82.1 :: q83).bind fun q84 => cl1 (C "_law_plus" (q84 ++ []))).bind fun p85 => some (some p85.1)) xs73).bind fun ys72 => some (PV.lst ys72, true)).bind fun p86 => some [p86.1]).bind fun q87 => bltV "tuple" q87).bind fun p88 => K' p88.1) = K' (pt (crossP a b (turn s e a) (turn s e b))) := fun h K' => by
      have hne := cross_neg h
      have hz : turn s e a - turn s e b ≠ 0 := fun z => hne (by grind)
      rw [hm.s _ _ (by omega)]
      simp only [cl1_sh, sh_bind, ob_some, om_some, List.append_nil]
      rw [ho.s _ _ hz (by omega)]
      simp only [cl1_sh, sh_bind]
      rw [rng_two, ob_some]
      rw [comp_two (x := fr (a.1 + turn s e a / (turn s e a - turn s e b) * (b.1 - a.1))) (y := fr (a.2 + turn s e a / (turn s e a - turn s e b) * (b.2 - a.2))) (by
        simp only [i0, sh_bind, ob_some, om_some, List.append_nil]
        rw [hm.s _ _ (by omega)]
        simp only [cl1_sh, sh_bind, ob_some, om_some, List.append_nil]
        rw [htm.s _ _ (by omega)]
        simp only [cl1_sh, sh_bind, ob_some, om_some, List.append_nil]
        rw [hp.s _ _ (by omega)]
        simp only [cl1_sh, sh_bind]) (by
        simp only [i1, sh_bind, ob_some, om_some, List.append_nil]
        rw [hm.s _ _ (by omega)]
        simp only [cl1_sh, sh_bind, ob_some, om_some, List.append_nil]
        rw [htm.s _ _ (by omega)]
        simp only [cl1_sh, sh_bind, ob_some, om_some, List.append_nil]
        rw [hp.s _ _ (by omega)]
        simp only [cl1_sh, sh_bind])]
      simp only [ob_some, tuple_lst, sh_bind]
      rw [crossP_eq]
    by_cases h1 : 0 ≤ turn s e a
    · rw [if_pos h1] at hpush
      simp only [h1, decide_true, if_true]
      obtain ⟨l1, e3, hpush⟩ := Option.bind_eq_some_iff.mp hpush
      rw [e3, ob_some]
      by_cases h2 : turn s e a * turn s e b < 0
      · rw [if_pos h2] at hpush
        rw [if_pos (decide_eq_true (hnum.mpr h2)), cross h2 (fun v => (pushO l1 v).bind fun ys89 => kn ys89), hpush, ob_some]
      · rw [if_neg h2] at hpush
        rw [if_neg (by rw [decide_eq_true_eq, hnum]; exact h2)]
        cases hpush
        rfl
    · rw [if_neg h1, ob_some] at hpush
      simp only [h1, decide_false, Bool.false_eq_true, if_false]
      by_cases h2 : turn s e a * turn s e b < 0
      · rw [if_pos h2] at hpush
        rw [if_pos (decide_eq_true (hnum.mpr h2)), cross h2 (fun v => (pushO (l.map pt) v).bind fun ys89 => kn ys89), hpush, ob_some]
      · rw [if_neg h2] at hpush
        rw [if_neg (by rw [decide_eq_true_eq, hnum]; exact h2)]
        have := Option.some.inj hpush
        rw [← this]) rfl]
  rw [clip_fold]
  rfl
end
end K66

/-! Cuts by polygons -/
namespace K66
open PySem L2 Pv

def sd (q : Side) : PV := .tup [pt q.1, pt q.2]
@[simp] theorem getD1 {a b : PV} {l : List PV} : (a :: b :: l).getD 1 .non = b := nr rfl
theorem unT_sd {q : Side} : unT 2 (sd q) = some [pt q.1, pt q.2] := unT2
theorem compM_cyc {step : PV → Option (Option PV)} {P : List Pt} (h : ∀ k a b, P[k]? = some a → P[(k + 1) % P.length]? = some b → step (.int (k : Nat)) = some (some (sd (a, b)))) : compM step (Pv.intsFrom 0 P.length) = some ((sidesOf P).map sd) := by
  have e : (sidesOf P).map sd = rl P.length fun k => sd ((sidesOf P).getD k ((0, 0), (0, 0))) := by
    apply List.ext_getElem?
    intro k
    by_cases hk : k < P.length
    · obtain ⟨a, b, _, _, e3⟩ := sides_get hk
      rw [List.getElem?_map, e3, rl_get hk]
      simp [List.getD, e3]
    · rw [List.getElem?_eq_none (by rw [List.length_map, sides_len]; omega), List.getElem?_eq_none (by rw [rl_len]; omega)]
  rw [ints0, e]
  refine compM_rl _ fun k hk => ?_
  obtain ⟨a, b, e1, e2, e3⟩ := sides_get hk
  rw [h k a b e1 e2]
  simp [List.getD, e3]
theorem seqL {xs : List PV} (h : xs.length ≤ 1000000) : seqOf (.lst xs) = some xs := seqOf_lst h
theorem truth_poly {P : List Pt} : truth (poly P) = some (!P.isEmpty) := by
  unfold poly
  rw [truth_lst, List.isEmpty_map]
theorem leftAll_fold : ∀ (S : List Side) (P : List Pt), leftAll S P = S.foldl (fun P q => leftOf q P) P
  | [], _ => rfl
  | h :: S, P => by simp only [leftAll, List.foldl_cons, leftAll_fold S]
theorem clipAll_fold : ∀ (S : List Side) (P : List Pt), clipAll S P = S.foldl (fun P q => clip q.1 q.2 P) P
  | [], _ => rfl
  | h :: S, P => by simp only [clipAll, List.foldl_cons, clipAll_fold S]
theorem clipAll_app : ∀ (S T : List Side) (P : List Pt), clipAll (S ++ T) P = clipAll T (clipAll S P)
  | [], _, _ => rfl
  | h :: S, T, P => by simp only [List.cons_append, clipAll, clipAll_app S T]
/-- what the cuts by some sides keep -/
structure Good (N : Nat) (Cp : List Pt → Prop) (S : List Side) (g : Nat) : Prop where
  gr : ∀ P, Cp P → ∀ x ∈ P, Gr N x
  bs : ∀ h ∈ S, Bp 19 h.1 ∧ Bp 19 h.2
  cl : ∀ h ∈ S, ∀ P, Cp P → Cp (leftOf h P) ∧ Cp (leftOf (h.2, h.1) P)
  ln : ∀ h ∈ S, ∀ P, Cp P → (leftOf h P).length ≤ g * P.length ∧ (leftOf (h.2, h.1) P).length ≤ g * P.length
  g1 : 1 ≤ g
def S_left (C : Cl) : Prop := ∀ P s e, (∀ x ∈ P, Bp 19 x) → Bp 19 s → Bp 19 e → P.length ≤ 400000 → cl1 (C "left_of" [poly P, pt s, pt e]) = sh (poly (leftOf (s, e) P))
def S_sides (C : Cl) : Prop := ∀ P, P.length ≤ 1000 → C "sides_of" [poly P] = some (.lst ((sidesOf P).map sd), true)
theorem leftOf_nil (h : Side) : leftOf h [] = [] := rfl
section
variable {C : Cl} {N g : Nat} {Cp : List Pt → Prop} {S : List Side}
theorem t_sides {P : List Pt} (h : P.length ≤ 1000) : mm_sides_of C (poly P) = some (.lst ((sidesOf P).map sd), true) := by
  unfold mm_sides_of
  simp only [len_poly, sh_bind]
  rw [rng1_ok (by omega), ob_some]
  rw [compM_cyc (P := P) (fun k a b e1 e2 => by
    have hk : k < P.length := (List.getElem?_eq_some_iff.mp e1).1
    simp only [ix_poly e1, sh_bind]
    rw [mod_ix (by omega)]
    simp only [sh_bind, ix_poly e2, ob_some, om_some]
    rfl)]
  rfl
theorem pow_step {B n : Nat} (h1 : 1 ≤ g) (h : B * g ^ (n + 1) ≤ 400000) : B * g * g ^ n ≤ 400000 ∧ B ≤ 400000 := by
  have e : B * g ^ (n + 1) = B * g * g ^ n := by rw [Nat.pow_succ, Nat.mul_assoc, Nat.mul_comm (g ^ n) g]
  refine ⟨by omega, ?_⟩
  have : 1 ≤ g ^ (n + 1) := Nat.one_le_pow _ _ h1
  have := Nat.le_mul_of_pos_right B this
  omega
theorem Good.tail {h : Side} (G : Good N Cp (h :: S) g) : Good N Cp S g := ⟨G.gr, fun x hx => G.bs x (List.mem_cons_of_mem _ hx), fun x hx => G.cl x (List.mem_cons_of_mem _ hx), fun x hx => G.ln x (List.mem_cons_of_mem _ hx), G.g1⟩
theorem Good.bp (G : Good N Cp S g) {P : List Pt} (h : Cp P) : ∀ x ∈ P, Bp 19 x := fun x hx => (G.gr P h x hx).bp
theorem common_loop (hl : S_left C) (K : PV → Out) : ∀ {S : List Side} (P : List Pt), Good N Cp S g → Cp P → P.length * g ^ S.length ≤ 400000 →
    forC (fun x12 (s5 : PV) k10 k11 => (unT 2 x12).bind fun vs13 => (truth s5).bind fun t15 => if t15 then (cl1 (C "left_of" [s5, (vs13.getD 0 .non), (vs13.getD 1 .non)])).bind fun p14 => k10 p14.1 else k10 s5) K (S.map sd) (poly P) = K (poly (leftAll S P))
  | [], P, _, _, _ => rfl
  | q :: S, P, G, hP, hB => by
    obtain ⟨b1, b2⟩ := pow_step G.g1 hB
    obtain ⟨c1, c2⟩ := G.bs q (by simp)
    have h1 := (G.cl q (by simp) P hP).1
    have h2 := (G.ln q (by simp) P hP).1
    rw [List.map_cons, forC_cons, unT_sd, ob_some, truth_poly, ob_some, getD0, getD1]
    have ih := common_loop hl K (S := S) (leftOf q P) G.tail h1 (Nat.le_trans (Nat.mul_le_mul_right _ (by rw [Nat.mul_comm]; exact h2)) b1)
    cases P with
    | nil =>
      simp only [List.isEmpty_nil, Bool.not_true, Bool.false_eq_true, if_false]
      rw [leftOf_nil] at ih
      exact ih
    | cons a r =>
      simp only [List.isEmpty_cons, Bool.not_false, if_true]
      rw [hl _ _ _ (G.bp hP) c1 c2 b2, sh_bind]
      exact ih
theorem t_common_p (hs : S_sides C) (hl : S_left C) {P o : List Pt} (G : Good N Cp (sidesOf o) g) (hP : Cp P) (hB : P.length * g ^ o.length ≤ 400000) (ho : o.length ≤ 1000) : mm_common_polygons C (poly P) (poly o) = sh (poly (leftAll (sidesOf o) P)) := by
  unfold mm_common_polygons
  simp only [jn_def]
  rw [hs o ho]
  simp only [cl2_own, ob_some]
  rw [seqL (by rw [List.length_map, sides_len]; omega), ob_some]
  exact common_loop hl (fun s16 : PV => some (s16, false)) P G hP (by rw [sides_len]; exact hB)
/-- the pieces, their sizes and what holds of them -/
theorem cutLoop_info : ∀ {S : List Side} (R : List Pt), Good N Cp S g → Cp R → ∀ Q ∈ cutLoop S R, Cp Q ∧ Q.length ≤ R.length * g ^ S.length
  | [], R, _, _, Q, hQ => nomatch hQ
  | q :: S, R, G, hR, Q, hQ => by
    obtain ⟨c1, c2⟩ := G.cl q (by simp) R hR
    obtain ⟨l1, l2⟩ := G.ln q (by simp) R hR
    simp only [cutLoop] at hQ
    have e : R.length * g ^ (S.length + 1) = g * R.length * g ^ S.length := by rw [Nat.pow_succ]; rw [Nat.mul_comm g R.length, Nat.mul_assoc, Nat.mul_comm (g ^ S.length) g]
    have p1 : 1 ≤ g ^ S.length := Nat.one_le_pow _ _ G.g1
    rcases List.mem_append.mp hQ with hQ | hQ
    · split at hQ
      · cases hQ
      · simp at hQ
        rw [hQ]
        refine ⟨c2, ?_⟩
        simp only [List.length_cons]
        rw [e]
        exact Nat.le_trans l2 (Nat.le_mul_of_pos_right _ p1)
    · obtain ⟨h1, h2⟩ := cutLoop_info (S := S) (leftOf q R) G.tail c1 Q hQ
      refine ⟨h1, ?_⟩
      simp only [List.length_cons]
      rw [e]
      exact Nat.le_trans h2 (Nat.mul_le_mul_right _ l1)
theorem cutLoop_many : ∀ {S : List Side} (R : List Pt), (cutLoop S R).length ≤ S.length
  | [], R => Nat.le_refl _
  | q :: S, R => by
    have := cutLoop_many (S := S) (leftOf q R)
    simp only [cutLoop, List.length_append, List.length_cons]
    have : (if (leftOf (q.2, q.1) R).isEmpty then [] else [leftOf (q.2, q.1) R]).length ≤ 1 := by split <;> simp
    omega
theorem cutOut_info {P : List Pt} (G : Good N Cp S g) (hP : Cp P) : (∀ Q ∈ cutOut S P, Cp Q ∧ Q.length ≤ P.length * g ^ S.length) ∧ (cutOut S P).length ≤ S.length + 1 := by
  unfold cutOut
  split
  · refine ⟨fun Q hQ => ?_, by simp⟩
    simp at hQ
    rw [hQ]
    exact ⟨hP, Nat.le_mul_of_pos_right _ (Nat.one_le_pow _ _ G.g1)⟩
  · exact ⟨cutLoop_info P G hP, by have := cutLoop_many (S := S) P; omega⟩
theorem cut_loop (hl : S_left C) (K : List PV × PV → Out) : ∀ {S : List Side} (acc : List (List Pt)) (R : List Pt), Good N Cp S g → Cp R → R.length * g ^ S.length ≤ 400000 → acc.length + S.length ≤ 1000 →
    forC (fun x23 (s8 : List PV × PV) k21 k22 => (unT 2 x23).bind fun vs24 => (cl1 (C "left_of" [s8.2, (vs24.getD 1 .non), (vs24.getD 0 .non)])).bind fun p27 => (truth p27.1).bind fun t31 => if t31 then (pushO s8.1 p27.1).bind fun ys30 => (cl1 (C "left_of" [s8.2, (vs24.getD 0 .non), (vs24.getD 1 .non)])).bind fun p32 => k21 (ys30, p32.1) else (cl1 (C "left_of" [s8.2, (vs24.getD 0 .non), (vs24.getD 1 .non)])).bind fun p32 => k21 (s8.1, p32.1)) K (S.map sd) (acc.map poly, poly R) = K ((acc ++ cutLoop S R).map poly, poly (leftAll S R))
  | [], acc, R, _, _, _, _ => by simp only [List.map_nil, forC_nil, cutLoop, List.append_nil, leftAll]
  | q :: S, acc, R, G, hR, hB, ha => by
    obtain ⟨b1, b2⟩ := pow_step G.g1 hB
    obtain ⟨c1, c2⟩ := G.bs q (by simp)
    have h1 := (G.cl q (by simp) R hR).1
    have h2 := (G.ln q (by simp) R hR).1
    rw [List.map_cons, forC_cons, unT_sd, ob_some, getD0, getD1]
    simp only []
    rw [hl _ _ _ (G.bp hR) c2 c1 b2, sh_bind]
    simp only []
    rw [truth_poly, ob_some, hl _ _ _ (G.bp hR) c1 c2 b2]
    have hb := Nat.le_trans (Nat.mul_le_mul_right (g ^ S.length) (show (leftOf q R).length ≤ R.length * g by rw [Nat.mul_comm]; exact h2)) b1
    simp only [cutLoop]
    cases he : (leftOf (q.2, q.1) R).isEmpty with
    | true =>
      simp only [Bool.not_true, Bool.false_eq_true, if_false, if_true, sh_bind, List.nil_append]
      exact cut_loop hl K (S := S) acc (leftOf q R) G.tail h1 hb (by simp at ha; omega)
    | false =>
      simp only [Bool.not_false, if_true, Bool.false_eq_true, if_false, sh_bind]
      rw [pushO_ok (by simp at ha ⊢; omega), ob_some]
      have ih := cut_loop hl K (S := S) (acc ++ [leftOf (q.2, q.1) R]) (leftOf q R) G.tail h1 hb (by simp at ha ⊢; omega)
      rw [List.map_append, List.append_assoc] at ih
      exact ih
theorem t_cut_out (hs : S_sides C) (hl : S_left C) {P o : List Pt} (hcm : C "common_polygons" [poly P, poly o] = sh (poly (leftAll (sidesOf o) P))) (G : Good N Cp (sidesOf o) g) (hP : Cp P) (hB : P.length * g ^ o.length ≤ 400000) (ho : o.length ≤ 900) :
    mm_cut_out C (poly P) (poly o) = some (.lst ((cutOut (sidesOf o) P).map poly), true) := by
  unfold mm_cut_out
  simp only [jn_def]
  rw [hcm]
  simp only [cl1_sh, sh_bind, truth_poly, om_some, ob_some, Bool.not_not]
  unfold cutOut
  split
  · rfl
  · rw [hs o (by omega)]
    simp only [cl2_own, ob_some]
    rw [seqL (by rw [List.length_map, sides_len]; omega), ob_some]
    have := cut_loop hl (fun s35 : List PV × PV => some (PV.lst s35.1, true)) (S := sidesOf o) [] P G hP (by rw [sides_len]; exact hB) (by rw [sides_len]; simp; omega)
    exact this
/-! ### without -/
/-- the others may be cut out, one behind the other -/
def Fit (N : Nat) (Cp : List Pt → Prop) : List (List Pt) → Nat → Nat → Prop
  | [], B, c => B ≤ 30000 ∧ c ≤ 400
  | o :: r, B, c => ∃ g, Good N Cp (sidesOf o) g ∧ o.length ≤ 6 ∧ B * g ^ 6 ≤ 30000 ∧ c ≤ 400 ∧ Fit N Cp r (B * g ^ 6) (c * 7)
def S_cut (C : Cl) (N : Nat) (Cp : List Pt → Prop) : Prop := ∀ P o g, Good N Cp (sidesOf o) g → Cp P → P.length * g ^ o.length ≤ 400000 → o.length ≤ 900 → C "cut_out" [poly P, poly o] = some (.lst ((cutOut (sidesOf o) P).map poly), true)
theorem cutAll_info (G : Good N Cp S g) {B : Nat} : ∀ {Ps : List (List Pt)}, (∀ Q ∈ Ps, Cp Q ∧ Q.length ≤ B) → (∀ Q ∈ cutAll S Ps, Cp Q ∧ Q.length ≤ B * g ^ S.length) ∧ (cutAll S Ps).length ≤ Ps.length * (S.length + 1)
  | [], _ => ⟨fun _ h => (nomatch h), by simp [cutAll]⟩
  | P :: r, h => by
    obtain ⟨h1, h2⟩ := h P (by simp)
    obtain ⟨i1, i2⟩ := cutOut_info G h1
    obtain ⟨j1, j2⟩ := cutAll_info G (Ps := r) fun Q hQ => h Q (List.mem_cons_of_mem _ hQ)
    refine ⟨fun Q hQ => ?_, ?_⟩
    · simp only [cutAll] at hQ
      rcases List.mem_append.mp hQ with hQ | hQ
      · obtain ⟨k1, k2⟩ := i1 Q hQ
        exact ⟨k1, Nat.le_trans k2 (Nat.mul_le_mul_right _ h2)⟩
      · exact j1 Q hQ
    · simp only [cutAll, List.length_append, List.length_cons, Nat.add_mul]
      omega
theorem pieces_loop (hc : S_cut C N Cp) (K : PV → Out) {o : List Pt} (G : Good N Cp (sidesOf o) g) (ho : o.length ≤ 6) {B : Nat} (hB : B * g ^ 6 ≤ 30000) : ∀ (Ps : List (List Pt)) (acc : List (List Pt)), (∀ Q ∈ Ps, Cp Q ∧ Q.length ≤ B) → acc.length + Ps.length * 7 ≤ 100000 →
    forC (fun x68 (s62 : PV) k66 k67 => ((cl2 (C "cut_out" [x68, poly o])).bind fun p69 => op2 .Add s62 p69.1).bind fun p70 => k66 p70.1) K (Ps.map poly) (.lst (acc.map poly)) = K (.lst ((acc ++ cutAll (sidesOf o) Ps).map poly))
  | [], acc, _, _ => by simp only [List.map_nil, forC_nil, cutAll, List.append_nil]
  | P :: Ps, acc, h, hn => by
    obtain ⟨h1, h2⟩ := h P (by simp)
    obtain ⟨i1, i2⟩ := cutOut_info G h1
    rw [sides_len] at i2
    have hp : P.length * g ^ o.length ≤ 400000 := by
      have : g ^ o.length ≤ g ^ 6 := Nat.pow_le_pow_right G.g1 ho
      have := Nat.mul_le_mul h2 this
      omega
    rw [List.map_cons, forC_cons, hc P o g G h1 hp (by omega)]
    simp only [cl2_own, ob_some]
    rw [op2_cat (by simp at hn ⊢; omega)]
    simp only [sh_bind]
    rw [← List.map_append]
    have ih := pieces_loop hc K G ho hB Ps (acc ++ cutOut (sidesOf o) P) (fun Q hQ => h Q (List.mem_cons_of_mem _ hQ)) (by simp at hn ⊢; omega)
    rw [ih]
    simp only [cutAll, List.append_assoc]
theorem others_loop (hc : S_cut C N Cp) (K : PV → Out) : ∀ (os : List (List Pt)) (Ps : List (List Pt)) (B c : Nat), Fit N Cp os B c → (∀ Q ∈ Ps, Cp Q ∧ Q.length ≤ B) → Ps.length ≤ c →
    forC (fun x53 (s28 : PV) k51 k52 => (seqOf s28).bind fun xs72 => forC (fun x68 (s62 : PV) k66 k67 => ((cl2 (C "cut_out" [x68, x53])).bind fun p69 => op2 .Add s62 p69.1).bind fun p70 => k66 p70.1) (fun (s71 : PV) => k51 s71) xs72 (.lst [])) K (os.map poly) (.lst (Ps.map poly)) = K (.lst ((cutMany (os.map sidesOf) Ps).map poly)) ∧
    ∃ B' c', (∀ Q ∈ cutMany (os.map sidesOf) Ps, Cp Q ∧ Q.length ≤ B') ∧ (cutMany (os.map sidesOf) Ps).length ≤ c' ∧ B' ≤ 30000 ∧ c' ≤ 400
  | [], Ps, B, c, hF, hP, hn => ⟨rfl, B, c, hP, hn, hF.1, hF.2⟩
  | o :: os, Ps, B, c, ⟨g, G, ho, hB, hc4, hF⟩, hP, hn => by
    have hg : g ^ o.length ≤ g ^ 6 := Nat.pow_le_pow_right G.g1 ho
    obtain ⟨i1, i2⟩ := cutAll_info G hP
    rw [sides_len] at i1 i2
    have hP' : ∀ Q ∈ cutAll (sidesOf o) Ps, Cp Q ∧ Q.length ≤ B * g ^ 6 := fun Q hQ => ⟨(i1 Q hQ).1, Nat.le_trans (i1 Q hQ).2 (Nat.mul_le_mul_left _ hg)⟩
    have hn' : (cutAll (sidesOf o) Ps).length ≤ c * 7 := Nat.le_trans i2 (Nat.mul_le_mul hn (by omega))
    obtain ⟨j1, j2⟩ := others_loop hc K os (cutAll (sidesOf o) Ps) (B * g ^ 6) (c * 7) hF hP' hn'
    refine ⟨?_, j2⟩
    rw [List.map_cons, forC_cons, seqL (by simp; omega), ob_some]
    have := pieces_loop hc (fun s71 : PV => forC (fun x53 (s28 : PV) k51 k52 => (seqOf s28).bind fun xs72 => forC (fun x68 (s62 : PV) k66 k67 => ((cl2 (C "cut_out" [x68, x53])).bind fun p69 => op2 .Add s62 p69.1).bind fun p70 => k66 p70.1) (fun (s71 : PV) => k51 s71) xs72 (.lst [])) K (os.map poly) s71) G ho hB Ps [] hP (by simp; omega)
    simp only [List.map_nil, List.nil_append] at this
    rw [this]
    exact j1
theorem tot_loop (hz : ∀ P, Cp P → P.length ≤ 30000 → C "size_of" [poly P] = sh (fr (twice P))) (hp : A_add C "plus") (hN : OKN N) (hgr : ∀ P, Cp P → ∀ x ∈ P, Gr N x) (K : PV → Out) : ∀ (Ps : List (List Pt)) (x : Rat) (k : Nat), (∀ Q ∈ Ps, Cp Q ∧ Q.length ≤ 30000) → SZ N k x → k + 30000 * Ps.length ≤ 2 ^ 25 →
    forC (fun x89 (s81 : PV) k87 k88 => ((((cl1 (C "size_of" [x89])).bind fun p90 => some [p90.1]).map fun q91 => s81 :: q91).bind fun q92 => cl1 (C "plus" (q92 ++ []))).bind fun p93 => k87 p93.1) K (Ps.map poly) (fr x) = K (fr (x + tot area Ps))
  | [], x, k, _, _, _ => by
    simp only [List.map_nil, forC_nil, tot]
    congr 2
    grind
  | P :: Ps, x, k, h, hx, hk => by
    obtain ⟨h1, h2⟩ := h P (by simp)
    have sz := (twice_sz (hgr P h1)).mono h2
    simp only [List.length_cons] at hk
    have b1 := hx.bz hN (by omega)
    have b2 := sz.bz hN (by omega)
    rw [List.map_cons, forC_cons, hz P h1 h2]
    simp only [cl1_sh, sh_bind, ob_some, om_some, List.append_nil]
    rw [hp _ _ (by omega)]
    simp only [cl1_sh, sh_bind]
    have ih := tot_loop hz hp hN hgr K Ps (x + twice P) (k + 30000) (fun Q hQ => h Q (List.mem_cons_of_mem _ hQ)) (hx.add sz) (by omega)
    simp only [List.append_nil] at ih
    rw [ih]
    simp only [tot, twice_sum]
    congr 2
    grind
theorem t_without (hc : S_cut C N Cp) (hz : ∀ P, Cp P → P.length ≤ 30000 → C "size_of" [poly P] = sh (fr (twice P))) (hp : A_add C "plus") (hN : OKN N) (hgr : ∀ P, Cp P → ∀ x ∈ P, Gr N x) {P : List Pt} (hP : Cp P) {os : List (List Pt)} (ho : os.length ≤ 1000) {B : Nat} (hB : P.length ≤ B) (hF : Fit N Cp os B 1) :
    mm_without C (poly P) (.lst (os.map poly)) = sh (fr (tot area (cutMany (os.map sidesOf) [P]))) := by
  unfold mm_without
  simp only [jn_def]
  rw [seqL (by simp; omega), ob_some]
  obtain ⟨e1, B', c', i1, i2, i3, i4⟩ := others_loop hc (fun s75 : PV => (seqOf s75).bind fun xs95 => forC (fun x89 (s81 : PV) k87 k88 => ((((cl1 (C "size_of" [x89])).bind fun p90 => some [p90.1]).map fun q91 => s81 :: q91).bind fun q92 => cl1 (C "plus" (q92 ++ []))).bind fun p93 => k87 p93.1) (fun (s94 : PV) => some (s94, false)) xs95 (fr 0)) os [P] B 1 hF (fun Q hQ => by simp at hQ; rw [hQ]; exact ⟨hP, hB⟩) (by simp)
  refine Eq.trans e1 ?_
  rw [seqL (by simp; omega), ob_some]
  rw [tot_loop hz hp hN hgr (fun s94 : PV => some (s94, false)) _ 0 0 (fun Q hQ => ⟨(i1 Q hQ).1, Nat.le_trans (i1 Q hQ).2 i3⟩) (SZ.zero N) (by omega)]
  show sh (fr _) = _
  congr 2
  grind
end
end K66

/-! What the law reckons; what it draws -/
namespace K66
open PySem L2 Pv

/-! ### shared -/
structure GoodC (N : Nat) (Cp : List Pt → Prop) (S : List Side) : Prop where
  gr : ∀ P, Cp P → ∀ x ∈ P, Gr N x
  bs : ∀ h ∈ S, Bp 19 h.1 ∧ Bp 19 h.2
  cl : ∀ h ∈ S, ∀ P, Cp P → Cp (clip h.1 h.2 P)
def S_lclip (C : Cl) : Prop := ∀ P s e, (∀ x ∈ P, Bp 19 x) → Bp 19 s → Bp 19 e → P.length ≤ 400000 → C "_law_clip" [poly P, pt s, pt e] = some (poly (clip s e P), true)
section
variable {C : Cl} {N g : Nat} {Cp : List Pt → Prop} {S : List Side}
theorem shared_inner (hl : S_lclip C) (K : PV → Out) {o : List Pt} (G : GoodC N Cp (sidesOf o)) {P : List Pt} (hP : Cp P) (ho : o.length ≤ 6) (hB : P.length ≤ 6000) :
    forC (fun x77 (s63 : PV) k75 k76 => (eqD s63 (.lst [])).map (!·) |>.bind fun t87 => if t87 then (ownO ((((ix (poly o) x77).bind fun p82 => ((((op2 .Add x77 (.int 1)).bind fun p78 => op2 .Mod p78.1 (.int (o.length : Nat))).bind fun p80 => ix (poly o) p80.1).bind fun p81 => some [p81.1]).map fun q83 => p82.1 :: q83).map fun q84 => s63 :: q84).bind fun q85 => cl2 (C "_law_clip" q85))).bind fun ys86 => k75 (.lst ys86) else k75 s63) K (Pv.intsFrom 0 o.length) (poly P) = K (poly (clipAll (sidesOf o) P)) := by
  rw [forC_cyc (s0 := poly P) o poly (fun P q => clip q.1 q.2 P) P (fun k R => Cp R ∧ R.length ≤ P.length * 2 ^ k ∧ k ≤ o.length) ⟨hP, by omega, by omega⟩ (fun k a b R e1 e2 hq hI => by
    have hk : k < o.length := (List.getElem?_eq_some_iff.mp e1).1
    obtain ⟨h1, h2, h3⟩ := hI
    obtain ⟨c1, c2⟩ := G.bs (a, b) hq
    have p64 : P.length * 2 ^ k ≤ 6000 * 2 ^ 6 := Nat.mul_le_mul hB (Nat.pow_le_pow_right (by omega) (by omega))
    refine ⟨fun kn kb => ?_, G.cl (a, b) hq R h1, ?_, by omega⟩
    · rw [show (PV.lst []) = poly [] from rfl, eqD_poly]
      simp only [om_some, ob_some]
      by_cases hR : R = []
      · simp only [hR, decide_true, Bool.not_true, Bool.false_eq_true, if_false]
        rfl
      · simp only [hR, decide_false, Bool.not_false, if_true, ix_poly e1, sh_bind]
        rw [mod_ix (by omega)]
        simp only [sh_bind, ix_poly e2, ob_some, om_some]
        rw [hl R a b (fun x hx => (G.gr R h1 x hx).bp) c1 c2 (by omega)]
        rfl
    · have := clip_len (s := a) (e := b) R
      rw [Nat.pow_succ, ← Nat.mul_assoc]
      show (clip a b R).length ≤ _
      omega) rfl]
  rw [clipAll_fold]
def shS : List (List Pt) → List Side
  | [] => []
  | o :: r => sidesOf o ++ shS r
theorem shared_outer (hl : S_lclip C) (K : PV → Out) : ∀ (os : List (List Pt)) (P : List Pt), (∀ o ∈ os, GoodC N Cp (sidesOf o) ∧ o.length ≤ 6) → Cp P → P.length * 64 ^ os.length ≤ 300000 →
    forC (fun x50 (s6 : PV) k48 k49 => ((bltV "len" [x50]).bind fun p90 => rng1 p90.1).bind fun xs89 => forC (fun x77 (s63 : PV) k75 k76 => (cmp .NotEq s63 (.lst [])).bind fun t87 => if t87 then (ownO ((((ix x50 x77).bind fun p82 => ((((op2 .Add x77 (.int 1)).bind fun p78 => (bltV "len" [x50]).bind fun p79 => op2 .Mod p78.1 p79.1).bind fun p80 => ix x50 p80.1).bind fun p81 => some [p81.1]).map fun q83 => p82.1 :: q83).map fun q84 => s63 :: q84).bind fun q85 => cl2 (C "_law_clip" (q85 ++ [])))).bind fun ys86 => k75 (.lst ys86) else k75 s63) (fun (s88 : PV) => k48 s88) xs89 s6) K (os.map poly) (poly P) = K (poly (clipAll (shS os) P)) ∧ Cp (clipAll (shS os) P) ∧ (clipAll (shS os) P).length ≤ 300000
  | [], P, _, hP, hB => ⟨rfl, hP, by simpa [shS, clipAll] using hB⟩
  | o :: os, P, h, hP, hB => by
    obtain ⟨G, ho⟩ := h o (by simp)
    have e64 : P.length * 64 ^ (os.length + 1) = P.length * 64 * 64 ^ os.length := by rw [Nat.pow_succ, Nat.mul_assoc, Nat.mul_comm (64 ^ os.length) 64]
    have one : 1 ≤ 64 ^ os.length := Nat.one_le_pow _ _ (by omega)
    have hB1 : P.length * 64 ≤ 300000 := by
      have := Nat.le_mul_of_pos_right (P.length * 64) one
      simp only [List.length_cons] at hB
      omega
    have info : Cp (clipAll (sidesOf o) P) ∧ (clipAll (sidesOf o) P).length ≤ P.length * 2 ^ o.length := by
      have := cyc_inv o (fun P q => clip q.1 q.2 P) P (fun k R => Cp R ∧ R.length ≤ P.length * 2 ^ k) ⟨hP, by omega⟩ (fun k q R hq hI => ⟨G.cl q hq R hI.1, by
        have := clip_len (s := q.1) (e := q.2) R
        rw [Nat.pow_succ, ← Nat.mul_assoc]
        omega⟩)
      rw [← clipAll_fold] at this
      exact this
    have l64 : P.length * 2 ^ o.length ≤ P.length * 64 := Nat.mul_le_mul_left _ (by
      have : 2 ^ o.length ≤ 2 ^ 6 := Nat.pow_le_pow_right (by omega) ho
      omega)
    obtain ⟨j1, j2, j3⟩ := shared_outer hl K os (clipAll (sidesOf o) P) (fun o' h' => h o' (List.mem_cons_of_mem _ h')) info.1 (by
      simp only [List.length_cons] at hB
      have := Nat.mul_le_mul_right (64 ^ os.length) (Nat.le_trans info.2 l64)
      omega)
    have e1 : clipAll (shS (o :: os)) P = clipAll (shS os) (clipAll (sidesOf o) P) := by simp only [shS, clipAll_app]
    rw [e1]
    refine ⟨?_, j2, j3⟩
    rw [List.map_cons, forC_cons, len_poly]
    simp only [sh_bind]
    rw [rng1_ok (by omega), ob_some]
    have := shared_inner hl (fun s88 : PV => forC (fun x50 (s6 : PV) k48 k49 => ((bltV "len" [x50]).bind fun p90 => rng1 p90.1).bind fun xs89 => forC (fun x77 (s63 : PV) k75 k76 => (cmp .NotEq s63 (.lst [])).bind fun t87 => if t87 then (ownO ((((ix x50 x77).bind fun p82 => ((((op2 .Add x77 (.int 1)).bind fun p78 => (bltV "len" [x50]).bind fun p79 => op2 .Mod p78.1 p79.1).bind fun p80 => ix x50 p80.1).bind fun p81 => some [p81.1]).map fun q83 => p82.1 :: q83).map fun q84 => s63 :: q84).bind fun q85 => cl2 (C "_law_clip" (q85 ++ [])))).bind fun ys86 => k75 (.lst ys86) else k75 s63) (fun (s88 : PV) => k48 s88) xs89 s6) K (os.map poly) s88) G hP ho (by omega)
    simp only [cmp_ne, List.append_nil] at this j1 ⊢
    rw [this]
    exact j1
theorem t_shared (hl : S_lclip C) (ht : ∀ P, Cp P → P.length ≤ 300000 → C "_law_twice" [poly P] = sh (fr (twice P))) {P : List Pt} {os : List (List Pt)} (hos : ∀ o ∈ os, GoodC N Cp (sidesOf o) ∧ o.length ≤ 6) (hP : Cp P) (hB : P.length * 64 ^ os.length ≤ 300000) (hn : os.length ≤ 1000) :
    mm__law_shared C (.lst (poly P :: os.map poly)) = sh (fr (twice (clipAll (shS os) P))) := by
  unfold mm__law_shared
  simp only [jn_def, ix_l0, sh_bind]
  have e : sl (.lst (poly P :: os.map poly)) (some 1) none = sh (.lst (os.map poly)) := by
    have := sl_from (xs := poly P :: os.map poly) (n := 1) (by simp)
    rw [show ((1 : Nat) : Int) = 1 from rfl] at this
    rw [this]
    rfl
  rw [e]
  simp only [sh_bind]
  rw [seqL (by simp; omega), ob_some]
  obtain ⟨e1, e2, e3⟩ := shared_outer hl (fun s91 : PV => (cl1 (C "_law_twice" [s91])).bind fun p94 => some (p94.1, p94.2)) os P hos hP hB
  refine Eq.trans e1 ?_
  rw [ht _ e2 e3]
  rfl
theorem t_isleft (ht : S_lturn C) {R : List Pt} {s e : Pt} (hR : ∀ x ∈ R, Bp 200 x) (hs : Bp 200 s) (he : Bp 200 e) (hl : R.length ≤ 1000000) (h1 : ∀ x ∈ R, 0 ≤ turn s e x) (h2 : R = [] ∨ 2 < R.length) : mm__law_is_left C (poly R) (pt s) (pt e) = sh (.bl true) := by
  unfold mm__law_is_left
  simp only [jn_def]
  rw [seq_poly hl, ob_some]
  rw [forC_allP pt (fun x => decide (0 ≤ turn s e x)) (r := sh (.bl false)) R () fun x hx _ kn kb => by
    rw [ht s e x hs he (hR x hx)]
    simp only [cl1_sh, sh_bind, fr0, cmp_lt, ob_some, num_neg_iff]
    have := h1 x hx
    have hn : ¬ turn s e x < 0 := by grind
    simp [hn, this]]
  rw [if_pos (by rw [List.all_eq_true]; intro x hx; simpa using h1 x hx)]
  rw [show (PV.lst []) = poly [] from rfl]
  simp only [cmpV_def, cmp_eq, eqD_poly, ob_some, sh_bind, blOf_bl, len_poly, cmp_gt]
  rcases h2 with h2 | h2
  · subst h2; rfl
  · have : ¬ R = [] := by rintro rfl; simp at h2
    simp only [this, decide_false, Bool.false_eq_true, if_false]
    rw [show decide ((2 : Int) < (R.length : Int)) = true from decide_eq_true (by omega)]
    rfl
end
/-! ### small points -/
/-- six times its parts are whole -/
def Six (p : Pt) : Prop := Wh (6 * p.1) ∧ Wh (6 * p.2)
theorem gr_of {N : Nat} (hN : 0 < N) (hN2 : N * 6 < 2 ^ 19) {p : Pt} (w1 : Wh ((N : Rat) * p.1)) (w2 : Wh ((N : Rat) * p.2)) (hs : Sq p) : Gr N p := by
  have c6 : ((6 : Nat) : Rat) = 6 := rfl
  have h1 := hs.1; have h2 := hs.2
  refine ⟨w1, w2, hs, ?_, ?_⟩
  · exact Nat.le_trans (bz_wh hN (B := 6) (by omega) w1 (by rw [c6]; exact h1.1) (by rw [c6]; exact h1.2)) (nb_le hN2 (by omega))
  · exact Nat.le_trans (bz_wh hN (B := 6) (by omega) w2 (by rw [c6]; exact h2.1) (by rw [c6]; exact h2.2)) (nb_le hN2 (by omega))
theorem c6 : ((6 : Nat) : Rat) = 6 := rfl
theorem c36 : ((36 : Nat) : Rat) = 36 := rfl
theorem six_gr {p : Pt} (h : Six p) (hs : Sq p) : Gr 6 p := gr_of (by omega) (by omega) (by rw [c6]; exact h.1) (by rw [c6]; exact h.2) hs
theorem six_36 {p : Pt} (h : Six p) (hs : Sq p) : Gr 36 p := by
  refine gr_of (by omega) (by omega) ?_ ?_ hs
  · have := (Wh.int 6).mul h.1
    have e : ((6 : Int) : Rat) * (6 * p.1) = ((36 : Nat) : Rat) * p.1 := by rw [c36, show ((6 : Int) : Rat) = 6 from rfl]; grind
    rw [e] at this
    exact this
  · have := (Wh.int 6).mul h.2
    have e : ((6 : Int) : Rat) * (6 * p.2) = ((36 : Nat) : Rat) * p.2 := by rw [c36, show ((6 : Int) : Rat) = 6 from rfl]; grind
    rw [e] at this
    exact this
/-- a drawn part -/
theorem drawn_part {n d : Int} (hd : d = 1 ∨ d = 2 ∨ d = 3) (h1 : -6 ≤ n) (h2 : n ≤ 6) : Wh (6 * Rat.divInt n d) ∧ -6 ≤ Rat.divInt n d ∧ Rat.divInt n d ≤ 6 := by
  have r1 : (-6 : Rat) ≤ (n : Rat) := by have := Rat.intCast_le_intCast.mpr h1; simpa using this
  have r2 : (n : Rat) ≤ 6 := by have := Rat.intCast_le_intCast.mpr h2; simpa using this
  rcases hd with rfl | rfl | rfl
  · have e : Rat.divInt n 1 = n := by rw [Rat.divInt_eq_div, show ((1 : Int) : Rat) = 1 from rfl]; grind
    rw [e]
    exact ⟨⟨6 * n, by simp⟩, r1, r2⟩
  · have e : Rat.divInt n 2 = (n : Rat) / 2 := by rw [Rat.divInt_eq_div]; rfl
    rw [e]
    exact ⟨⟨3 * n, by simp only [Rat.intCast_mul]; rw [show ((3 : Int) : Rat) = 3 from rfl]; grind⟩, by grind, by grind⟩
  · have e : Rat.divInt n 3 = (n : Rat) / 3 := by rw [Rat.divInt_eq_div]; rfl
    rw [e]
    exact ⟨⟨2 * n, by simp only [Rat.intCast_mul]; rw [show ((2 : Int) : Rat) = 2 from rfl]; grind⟩, by grind, by grind⟩
theorem small_frac {C : Cl} (hf : A_lfraction C) {n d : Int} (hd : d = 1 ∨ d = 2 ∨ d = 3) : C "_law_fraction" [.int n, .int d] = sh (fr (Rat.divInt n d)) := by
  have hn : d ≠ 0 := by omega
  have hdb : nb d.natAbs ≤ 4900 := by rcases hd with rfl | rfl | rfl <;> decide
  refine hf n d hn (by omega) ?_
  have e1 : d.natAbs = Int.gcd n d * (Rat.divInt n d).den := den_gcd hn
  refine Nat.le_trans (nb_mono ?_) hdb
  rw [e1]
  refine Nat.le_mul_of_pos_left _ ?_
  have : Int.gcd n d ≠ 0 := fun z => hn (Int.gcd_eq_zero_iff.mp z).2
  omega
/-! ### polygons -/
structure GP (P : List Pt) : Prop where
  l1 : 3 ≤ P.length
  l2 : P.length ≤ 6
  six : ∀ x ∈ P, Six x
  sq : ∀ x ∈ P, Sq x
  ok : Ok (sidesOf P)
  ins : ∀ h ∈ sidesOf P, ∀ x ∈ P, 0 ≤ turn h.1 h.2 x
theorem prs_ch {R : Pt → Pt → Prop} : ∀ {l : List Pt} {a : Pt}, Ch R (a :: l) → ∀ q ∈ prs a l, R q.1 q.2
  | [], _, _, q, h => nomatch h
  | b :: r, a, h, q, hq => by
    rcases List.mem_cons.mp hq with rfl | hq
    · exact h.1
    · exact prs_ch h.2 q hq
theorem gp_hull {pts : List Pt} (hR : Round pts (hull pts)) (h6 : ∀ x ∈ pts, Six x) (hs : ∀ x ∈ pts, Sq x) (hl : pts.length ≤ 6) : GP (hull pts) := by
  have hsd : ∀ q ∈ sidesOf (hull pts), q.1 ≠ q.2 ∧ isSide pts q.1 q.2 := fun q hq => by
    cases hh : hull pts with
    | nil => rw [hh] at hq; cases hq
    | cons a r =>
      have hc := hR.ch a r hh
      rw [hh] at hq hc
      exact prs_ch (R := fun a b => a ≠ b ∧ isSide pts a b) hc q hq
  exact ⟨by have := hR.len; omega, Nat.le_trans hR.most hl, fun x hx => h6 x (hR.mem x hx), fun x hx => hs x (hR.mem x hx), fun q hq => (hsd q hq).1, fun q hq x hx => ((hsd q hq).2 x (hR.mem x hx)).1⟩
def triangle : List Pt := [(0, 0), (3, 0), (1, 2)]
theorem gp_triangle : GP triangle := by
  refine ⟨by decide, by decide, ?_, ?_, ?_, ?_⟩
  · intro x hx
    simp only [triangle, List.mem_cons, List.not_mem_nil, or_false] at hx
    rcases hx with rfl | rfl | rfl
    · exact ⟨⟨0, by decide +kernel⟩, ⟨0, by decide +kernel⟩⟩
    · exact ⟨⟨18, by decide +kernel⟩, ⟨0, by decide +kernel⟩⟩
    · exact ⟨⟨6, by decide +kernel⟩, ⟨12, by decide +kernel⟩⟩
  · intro x hx
    simp only [triangle, List.mem_cons, List.not_mem_nil, or_false] at hx
    rcases hx with rfl | rfl | rfl <;> (unfold Sq; decide +kernel)
  · intro h hh
    simp only [triangle, sidesOf, prs, List.cons_append, List.nil_append, List.mem_cons, List.not_mem_nil, or_false] at hh
    rcases hh with rfl | rfl | rfl <;> decide +kernel
  · intro h hh x hx
    simp only [triangle, sidesOf, prs, List.cons_append, List.nil_append, List.mem_cons, List.not_mem_nil, or_false] at hh hx
    rcases hh with rfl | rfl | rfl <;> rcases hx with rfl | rfl | rfl <;> (unfold turn; decide +kernel)
/-- the lines of the sides -/
theorem lines_of : ∀ (S : List Side), (∀ h ∈ S, ∃ l : Line, l.ok ∧ IsLn h l) → ∃ L : List Line, L.length = S.length ∧ (∀ l ∈ L, l.ok) ∧ ∀ h ∈ S, ∃ l ∈ L, IsLn h l
  | [], _ => ⟨[], rfl, fun _ h => (nomatch h), fun _ h => (nomatch h)⟩
  | h :: S, hh => by
    obtain ⟨l, h1, h2⟩ := hh h (by simp)
    obtain ⟨L, g1, g2, g3⟩ := lines_of S fun x hx => hh x (List.mem_cons_of_mem _ hx)
    refine ⟨l :: L, by simp [g1], fun m hm => ?_, fun x hx => ?_⟩
    · rcases List.mem_cons.mp hm with rfl | hm
      · exact h1
      · exact g2 m hm
    · rcases List.mem_cons.mp hx with rfl | hx
      · exact ⟨l, by simp, h2⟩
      · obtain ⟨m, m1, m2⟩ := g3 x hx
        exact ⟨m, List.mem_cons_of_mem _ m1, m2⟩
theorem gp_lines {P : List Pt} (h : GP P) : ∀ q ∈ sidesOf P, ∃ l : Line, l.ok ∧ IsLn q l := fun q hq => by
  obtain ⟨m1, m2⟩ := sides_mem hq
  have a := h.six _ m1
  have b := h.six _ m2
  have sa := h.sq _ m1
  have sb := h.sq _ m2
  unfold Sq at sa sb
  exact line_of a.1 a.2 b.1 b.2 (h.ok q hq) (by grind) (by grind)
theorem ch_prs {R : Pt → Pt → Prop} : ∀ {l : List Pt} {a : Pt}, (∀ q ∈ prs a l, R q.1 q.2) → Ch R (a :: l)
  | [], _, _ => trivial
  | b :: r, a, h => ⟨h (a, b) (by simp [prs]), ch_prs (l := r) fun q hq => h q (by simp [prs, hq])⟩
/-- a polygon among the lines -/
theorem gp_poly {L : List Line} {P : List Pt} (h : GP P) (hL : ∀ q ∈ sidesOf P, ∃ l ∈ L, IsLn q l) : Poly L P := by
  refine ⟨?_, fun x hx => ⟨⟨1, by omega, by unfold DET; omega, Nat.one_dvd _, ?_, ?_⟩, h.sq x hx⟩⟩
  · cases P with
    | nil => trivial
    | cons a r =>
      refine ch_prs fun q hq => ?_
      obtain ⟨l, hl, hi⟩ := hL q hq
      refine ⟨l, hl, ?_, ?_⟩
      · rw [hi, turn_s]; grind
      · rw [hi, turn_e]; grind
  · have := (h.six x hx).1
    have e : 6 * ((1 : Nat) : Rat) * x.1 = 6 * x.1 := by rw [show ((1 : Nat) : Rat) = 1 from rfl]; grind
    rw [e]; exact this
  · have := (h.six x hx).2
    have e : 6 * ((1 : Nat) : Rat) * x.2 = 6 * x.2 := by rw [show ((1 : Nat) : Rat) = 1 from rfl]; grind
    rw [e]; exact this
/-- the common multiple -/
def NN (L : List Line) : Nat := 6 * pd L
theorem vt_gr {L : List Line} {p : Pt} (h : Vt L p) : Gr (NN L) p := by
  obtain ⟨D, d1, d2, ⟨k, hk⟩, w1, w2⟩ := h.ex
  have eN : ((NN L : Nat) : Rat) = (k : Rat) * (6 * (D : Rat)) := by
    unfold NN
    rw [hk, Rat.natCast_mul, Rat.natCast_mul, c6]
    generalize (D : Rat) = d
    generalize (k : Rat) = m
    grind
  have e6 : ((6 * D : Nat) : Rat) = 6 * (D : Rat) := by rw [Rat.natCast_mul, c6]
  have g := gr_of (N := 6 * D) (by omega) (by unfold DET at d2; omega) (p := p) (by rw [e6]; exact w1) (by rw [e6]; exact w2) h.sq
  refine ⟨?_, ?_, h.sq, g.bp⟩
  · have := (Wh.nat k).mul w1
    rw [eN]
    have e : (k : Rat) * (6 * (D : Rat) * p.1) = (k : Rat) * (6 * (D : Rat)) * p.1 := by grind
    rw [← e]; exact this
  · have := (Wh.nat k).mul w2
    rw [eN]
    have e : (k : Rat) * (6 * (D : Rat) * p.2) = (k : Rat) * (6 * (D : Rat)) * p.2 := by grind
    rw [← e]; exact this
theorem okn {L : List Line} (hL : ∀ l ∈ L, l.ok) (hn : L.length ≤ 18) : OKN (NN L) := by
  have h1 := pd_le hL
  have h2 : tri2 L.length ≤ 153 := by
    have mono : ∀ a b : Nat, a ≤ b → tri2 a ≤ tri2 b := by
      intro a b hab
      induction b with
      | zero => have : a = 0 := by omega
                subst this; exact Nat.le_refl _
      | succ b ih =>
        by_cases e : a = b + 1
        · rw [e]; exact Nat.le_refl _
        · have := ih (by omega)
          simp only [tri2]
          omega
    exact mono _ 18 hn
  have h3 : pd L ≤ 2 ^ 2142 := Nat.le_trans h1 (Nat.pow_le_pow_right (by omega) (by omega))
  refine ⟨Nat.mul_pos (by omega) (pd_pos L), ?_⟩
  have h4 : NN L ≤ 6 * 2 ^ 2142 := Nat.mul_le_mul_left 6 h3
  have h5 := Nat.mul_le_mul h4 h4
  have h6 : 6 * 2 ^ 2142 * (6 * 2 ^ 2142) = 36 * 2 ^ 4284 := by
    rw [Nat.mul_mul_mul_comm, ← Nat.pow_add]
  have h7 : 36 * 2 ^ 4284 < 2 ^ 6 * 2 ^ 4284 := Nat.mul_lt_mul_of_pos_right (by omega) (Nat.two_pow_pos _)
  rw [← Nat.pow_add] at h7
  rw [h6] at h5
  exact Nat.lt_of_le_of_lt h5 h7
/-! ### the cuts keep to the lines -/
def CpL (L : List Line) (S1 : List Side) (P : List Pt) : Prop := Poly L P ∧ ∀ h ∈ S1, ∀ x ∈ P, 0 ≤ turn h.1 h.2 x
section
variable {L : List Line} {S1 S : List Side}
theorem cpl_left (hL : ∀ l ∈ L, l.ok) {h : Side} {m : Line} (hm : m ∈ L) (hi : IsLn h m) {P : List Pt} (hP : CpL L S1 P) : CpL L S1 (leftOf h P) ∧ CpL L S1 (leftOf (h.2, h.1) P) :=
  ⟨⟨filt_poly (clip_poly hL hm hi hP.1), fun k hk => leftOf_conv (left_conv k.1 k.2) (hP.2 k hk)⟩, ⟨filt_poly (clip_polyR hL hm hi hP.1), fun k hk => leftOf_conv (left_conv k.1 k.2) (hP.2 k hk)⟩⟩
theorem good2 (hL : ∀ l ∈ L, l.ok) (hS : ∀ h ∈ S, (Bp 19 h.1 ∧ Bp 19 h.2) ∧ ∃ l ∈ L, IsLn h l) : Good (NN L) (CpL L S1) S 2 where
  gr := fun P hP x hx => vt_gr (hP.1.vt x hx)
  bs := fun h hh => (hS h hh).1
  cl := fun h hh P hP => let ⟨l, hl, hi⟩ := (hS h hh).2; cpl_left hL hl hi hP
  ln := fun h hh P hP => ⟨Nat.le_trans (filt_len _) (clip_len P), Nat.le_trans (filt_len _) (clip_len P)⟩
  g1 := by omega
theorem good1 (hL : ∀ l ∈ L, l.ok) (hS : ∀ h ∈ S1, (Bp 19 h.1 ∧ Bp 19 h.2) ∧ ∃ l ∈ L, IsLn h l) : Good (NN L) (CpL L S1) S1 1 where
  gr := fun P hP x hx => vt_gr (hP.1.vt x hx)
  bs := fun h hh => (hS h hh).1
  cl := fun h hh P hP => let ⟨l, hl, hi⟩ := (hS h hh).2; cpl_left hL hl hi hP
  ln := fun h hh P hP => by
    refine ⟨?_, ?_⟩
    · have := filt_len (clip h.1 h.2 P)
      rw [clip_in (hP.2 h hh)] at this
      unfold leftOf
      rw [clip_in (hP.2 h hh)]
      omega
    · have h1 := filt_len (clip h.2 h.1 P)
      have h2 := clip_len1 (s := h.2) (e := h.1) (P := P) fun x hx => by
        have e : turn h.2 h.1 x = -turn h.1 h.2 x := turn_rev _ _ _
        have := hP.2 h hh x hx
        grind
      show (filt (clip h.2 h.1 P)).length ≤ _
      omega
  g1 := by omega
theorem goodc (hL : ∀ l ∈ L, l.ok) (hS : ∀ h ∈ S, (Bp 19 h.1 ∧ Bp 19 h.2) ∧ ∃ l ∈ L, IsLn h l) : GoodC (NN L) (Poly L) S where
  gr := fun P hP x hx => vt_gr (hP.vt x hx)
  bs := fun h hh => (hS h hh).1
  cl := fun h hh P hP => let ⟨l, hl, hi⟩ := (hS h hh).2; clip_poly hL hl hi hP
end
end K66

/-! Draws; the hull is right -/
namespace K66
open PySem L2 Pv

theorem forC_exg {S : Type} {step : PV → S → (S → Out) → (S → Out) → Out} {K : S → Out} {R : Out → Prop} (P : Nat → S → Prop) (n : Nat) {s0 : S} (h0 : P 0 s0)
    (h : ∀ k, k < n → ∀ s, P k s → ∃ s', P (k + 1) s' ∧ ∀ kn kb, step (.int k) s kn kb = kn s') (hk : ∀ s, P n s → R (K s)) : R (forC step K (Pv.intsFrom 0 n) s0) := by
  have key : ∀ (d lo : Nat) (s : S), lo + d = n → P lo s → R (forC step K (Pv.intsFrom lo d) s) := by
    intro d
    induction d with
    | zero => intro lo s e hs; exact hk s (by rw [← e]; exact hs)
    | succ d ih =>
      intro lo s e hs
      obtain ⟨s', a, b⟩ := h lo (by omega) s hs
      have := ih (lo + 1) s' (by omega) a
      show R (step (.int lo) s (fun s => forC step K (Pv.intsFrom ((lo : Int) + 1) _) s) K)
      rw [b]
      exact this
  exact key n 0 s0 (by omega) h0
def S_row (C : Cl) : Prop := ∀ cell size base : Nat, size ≤ 1000 → 0 < base → base < 2 ^ 60 → ∃ f : Nat → Int, (∀ i, 0 ≤ f i ∧ f i < base) ∧ C "_law_row" [.int cell, .int size, .int base] = some (.lst (rl size fun i => .int (f i)), true)
def S_cell (C : Cl) (V : PV) : Prop := ∀ k : Nat, ∃ c : Nat, C "_law_cell" [V, .int k] = sh (.int (c : Int))
def S_mid (C : Cl) : Prop := ∀ x y, bz x + bz y ≤ 3000 → C "_law_middle" [fr x, fr y] = sh (fr ((x + y) * (1 / 2)))
def S_lhull (C : Cl) : Prop := ∀ pts : List Pt, pts ≠ [] → (∀ x ∈ pts, Bp 200 x) → pts.length ≤ 100 → C "_law_hull" [poly pts] = some (poly (hull pts), true)
section
variable {C : Cl}
theorem fr_half : PV.tup [.int 1, .int 2] = fr (1 / 2) := by
  rw [fr, show (1 / 2 : Rat).num = 1 by decide +kernel, show (1 / 2 : Rat).den = 2 by decide +kernel]; rfl
theorem bz_half : bz (1 / 2) = 2 := by decide +kernel
theorem t_middle (hp : B_add C "_law_plus") (hm : B_mul C "_law_times") (x y : Rat) (hb : bz x + bz y ≤ 3000) : mm__law_middle C (fr x) (fr y) = sh (fr ((x + y) * (1 / 2))) := by
  have := bz_add x y
  unfold mm__law_middle
  rw [hp.s _ _ (by omega), cl1_sh, sh_bind, fr_half]
  simp only [ob_some, List.append_nil]
  rw [hm.s _ _ (by rw [bz_half]; omega)]
  rfl
theorem dv {x : Int} (h : 0 ≤ x) : 1 + x % 3 = 1 ∨ 1 + x % 3 = 2 ∨ 1 + x % 3 = 3 := by omega
/-- one of the law's points -/
def okPt (p : Pt) : Prop := (Wh (36 * p.1) ∧ Wh (36 * p.2)) ∧ Sq p
theorem okPt.gr {p : Pt} (h : okPt p) : Gr 36 p := gr_of (by omega) (by omega) (by rw [c36]; exact h.1.1) (by rw [c36]; exact h.1.2) h.2
theorem six_ok {p : Pt} (h : Six p) (hs : Sq p) : okPt p := by
  have g := six_36 h hs
  have w1 := g.w1
  have w2 := g.w2
  rw [c36] at w1 w2
  exact ⟨⟨w1, w2⟩, hs⟩
def drawnPt (n m d : Int) : Pt := (Rat.divInt n d, Rat.divInt m d)
theorem drawn_ok {n m d : Int} (hd : d = 1 ∨ d = 2 ∨ d = 3) (h1 : -6 ≤ n ∧ n ≤ 6) (h2 : -6 ≤ m ∧ m ≤ 6) : Six (drawnPt n m d) ∧ Sq (drawnPt n m d) := by
  obtain ⟨a1, a2, a3⟩ := drawn_part hd h1.1 h1.2
  obtain ⟨b1, b2, b3⟩ := drawn_part hd h2.1 h2.2
  exact ⟨⟨a1, b1⟩, ⟨a2, a3⟩, b2, b3⟩
theorem mid_ok {a b : Pt} (ha : Six a) (hb : Six b) (sa : Sq a) (sb : Sq b) : okPt ((a.1 + b.1) * (1 / 2), (a.2 + b.2) * (1 / 2)) := by
  unfold Sq at sa sb
  refine ⟨⟨?_, ?_⟩, ⟨by grind, by grind⟩, by grind, by grind⟩
  · have := (Wh.int 3).mul (ha.1.add hb.1)
    have e : ((3 : Int) : Rat) * (6 * a.1 + 6 * b.1) = 36 * ((a.1 + b.1) * (1 / 2)) := by rw [show ((3 : Int) : Rat) = 3 from rfl]; grind
    rw [e] at this; exact this
  · have := (Wh.int 3).mul (ha.2.add hb.2)
    have e : ((3 : Int) : Rat) * (6 * a.2 + 6 * b.2) = 36 * ((a.2 + b.2) * (1 / 2)) := by rw [show ((3 : Int) : Rat) = 3 from rfl]; grind
    rw [e] at this; exact this
theorem pt_tup {x y : Rat} : PV.tup [fr x, fr y] = pt (x, y) := rfl
theorem t_points {V : PV} (hcell : S_cell C V) (hrow : S_row C) (hf : A_lfraction C) (hmid : S_mid C) : ∃ pts : List Pt, pts.length ≤ 10 ∧ (∀ x ∈ pts, okPt x) ∧ mm__law_points C V = some (poly pts, true) := by
  unfold mm__law_points
  simp only [jn_def]
  obtain ⟨c5, h5⟩ := hcell 5
  rw [show (PV.int 5) = PV.int ((5 : Nat) : Int) from rfl, h5]
  simp only [cl1_sh, sh_bind, ob_some, int_int]
  rw [op2_mods (by omega), sh_bind, show ((c5 : Int) % 11) = ((c5 % 11 : Nat) : Int) by omega, rng1_ok (by omega), ob_some]
  refine forC_exg (R := fun o => ∃ pts : List Pt, pts.length ≤ 10 ∧ (∀ x ∈ pts, okPt x) ∧ o = some (poly pts, true))
    (fun k (s : List PV) => ∃ F : List Pt, s = F.map pt ∧ F.length = k ∧ (∀ x ∈ F, okPt x) ∧ (∀ i x, i < 2 → F[i]? = some x → Six x)) (c5 % 11) ⟨[], rfl, rfl, (fun _ h => (nomatch h)), fun i x _ h => by simp at h⟩ ?_ ?_
  · intro k hk s hs
    obtain ⟨F, rfl, hl, hok, hsix⟩ := hs
    obtain ⟨cc, hcc⟩ := hcell (6 + k)
    obtain ⟨f, hfb, hr⟩ := hrow cc 4 1000 (by omega) (by omega) (by omega)
    have f0 := hfb 0; have f1 := hfb 1; have f2 := hfb 2; have f3 := hfb 3
    have hd := dv f2.1
    obtain ⟨d6, dq⟩ := drawn_ok (n := f 0 % 11 - 5) (m := f 1 % 11 - 5) hd (by omega) (by omega)
    have g0 : ∀ i : Nat, i < 4 → ix (.lst (rl 4 fun i => .int (f i))) (.int (i : Nat)) = sh (.int (f i)) := fun i hi => ix_rlL hi
    have r0 := g0 0 (by omega); have r1 := g0 1 (by omega); have r2 := g0 2 (by omega); have r3 := g0 3 (by omega)
    rw [show ((0 : Nat) : Int) = 0 from rfl] at r0
    rw [show ((1 : Nat) : Int) = 1 from rfl] at r1
    rw [show ((2 : Nat) : Int) = 2 from rfl] at r2
    rw [show ((3 : Nat) : Int) = 3 from rfl] at r3
    have hsize : F.length < 900000 := by omega
    -- what is laid behind it
    have fin : ∀ (p : Pt), okPt p → (F.length < 2 → Six p) → ∃ s', (∃ F' : List Pt, s' = F'.map pt ∧ F'.length = k + 1 ∧ (∀ x ∈ F', okPt x) ∧ (∀ i x, i < 2 → F'[i]? = some x → Six x)) ∧ ∀ kn : List PV → Out, ((pushO (F.map pt) (pt p)).bind fun ys => kn ys) = kn s' := fun p hp h6 => by
      refine ⟨(F ++ [p]).map pt, ⟨F ++ [p], rfl, by simp [hl], fun x hx => ?_, fun i x hi hx => ?_⟩, fun kn => ?_⟩
      · rcases List.mem_append.mp hx with hx | hx
        · exact hok x hx
        · simp at hx; rw [hx]; exact hp
      · by_cases hiF : i < F.length
        · rw [List.getElem?_append_left hiF] at hx
          exact hsix i x hi hx
        · rw [List.getElem?_append_right (by omega)] at hx
          have : i - F.length = 0 := by
            have := (List.getElem?_eq_some_iff.mp hx).1
            simp at this
            omega
          rw [this] at hx
          simp at hx
          rw [← hx]
          exact h6 (by omega)
      · rw [pushO_ok (by simpa using by omega), ob_some]
        simp
    have main : ∃ p : Pt, okPt p ∧ (F.length < 2 → Six p) ∧ ∀ kn kb : List PV → Out, (fun x68 (s5 : List PV) k66 k67 => (ownO ((((((op2 .Add (.int 6) x68).bind fun p71 => some [p71.1]).map fun q72 => V :: q72).bind fun q73 => cl1 (C "_law_cell" (q73 ++ []))).bind fun p74 => some [p74.1, (.int 4), (.int 1000)]).bind fun q75 => cl2 (C "_law_row" (q75 ++ [])))).bind fun ys76 => (((ix (.lst ys76) (.int 2)).bind fun p77 => op2 .Mod p77.1 (.int 3)).bind fun p78 => op2 .Add (.int 1) p78.1).bind fun p79 => (((((((ix (.lst ys76) (.int 0)).bind fun p80 => op2 .Mod p80.1 (.int 11)).bind fun p81 => op2 .Sub p81.1 (.int 5)).bind fun p82 => some [p82.1, p79.1]).bind fun q83 => cl1 (C "_law_fraction" (q83 ++ []))).bind fun p89 => ((((((ix (.lst ys76) (.int 1)).bind fun p84 => op2 .Mod p84.1 (.int 11)).bind fun p85 => op2 .Sub p85.1 (.int 5)).bind fun p86 => some [p86.1, p79.1]).bind fun q87 => cl1 (C "_law_fraction" (q87 ++ []))).bind fun p88 => some [p88.1]).map fun q90 => p89.1 :: q90).bind fun q91 => sh (.tup q91)).bind fun p92 =>
        ((((ix (.lst ys76) (.int 3)).bind fun p101 => op2 .Mod p101.1 (.int 7)).bind fun p102 => cmp .Eq p102.1 (.int 0)).bind fun b103 => if b103 then cmp .NotEq (.lst s5) (.lst []) else some false).bind fun t100 => if t100 then ((((ix (.lst ys76) (.int 3)).bind fun p95 => op2 .FloorDiv p95.1 (.int 7)).bind fun p96 => (bltV "len" [(.lst s5)]).bind fun p97 => op2 .Mod p96.1 p97.1).bind fun p98 => ix (.lst s5) p98.1).bind fun p99 => if PV.flat p99.1 then
          (((((ix (.lst ys76) (.int 3)).bind fun p120 => op2 .Mod p120.1 (.int 7)).bind fun p121 => cmp .Eq p121.1 (.int 1)).bind fun b122 => if b122 then (bltV "len" [(.lst s5)]).bind fun p123 => cmp .Gt p123.1 (.int 1) else some false).bind fun t119 => if t119 then ((((rng1 (.int 2)).bind fun xs108 => (compM (fun x106 => ((((ix (.lst s5) (.int 0)).bind fun p109 => ix p109.1 x106).bind fun p112 => (((ix (.lst s5) (.int 1)).bind fun p110 => ix p110.1 x106).bind fun p111 => some [p111.1]).map fun q113 => p112.1 :: q113).bind fun q114 => cl1 (C "_law_middle" (q114 ++ []))).bind fun p115 => some (some p115.1)) xs108).bind fun ys107 => some (PV.lst ys107, true)).bind fun p116 => some [p116.1]).bind fun q117 => bltV "tuple" q117).bind fun p118 => if PV.flat p118.1 then (pushO s5 p118.1).bind fun ys124 => k66 ys124 else none else (pushO s5 p99.1).bind fun ys124 => k66 ys124) else none else
          (((((ix (.lst ys76) (.int 3)).bind fun p120 => op2 .Mod p120.1 (.int 7)).bind fun p121 => cmp .Eq p121.1 (.int 1)).bind fun b122 => if b122 then (bltV "len" [(.lst s5)]).bind fun p123 => cmp .Gt p123.1 (.int 1) else some false).bind fun t119 => if t119 then ((((rng1 (.int 2)).bind fun xs108 => (compM (fun x106 => ((((ix (.lst s5) (.int 0)).bind fun p109 => ix p109.1 x106).bind fun p112 => (((ix (.lst s5) (.int 1)).bind fun p110 => ix p110.1 x106).bind fun p111 => some [p111.1]).map fun q113 => p112.1 :: q113).bind fun q114 => cl1 (C "_law_middle" (q114 ++ []))).bind fun p115 => some (some p115.1)) xs108).bind fun ys107 => some (PV.lst ys107, true)).bind fun p116 => some [p116.1]).bind fun q117 => bltV "tuple" q117).bind fun p118 => if PV.flat p118.1 then (pushO s5 p118.1).bind fun ys124 => k66 ys124 else none else (pushO s5 p92.1).bind fun ys124 => k66 ys124)) (PV.int (k : Nat)) (F.map pt) kn kb = ((pushO (F.map pt) (pt p)).bind fun ys => kn ys) := by
      have start : ∀ K' : List PV → PV × Bool → Out, ((ownO ((((((op2 .Add (.int 6) (PV.int (k : Nat))).bind fun p71 => some [p71.1]).map fun q72 => V :: q72).bind fun q73 => cl1 (C "_law_cell" (q73 ++ []))).bind fun p74 => some [p74.1, (.int 4), (.int 1000)]).bind fun q75 => cl2 (C "_law_row" (q75 ++ [])))).bind fun ys76 => (((ix (.lst ys76) (.int 2)).bind fun p77 => op2 .Mod p77.1 (.int 3)).bind fun p78 => op2 .Add (.int 1) p78.1).bind fun p79 => (((((((ix (.lst ys76) (.int 0)).bind fun p80 => op2 .Mod p80.1 (.int 11)).bind fun p81 => op2 .Sub p81.1 (.int 5)).bind fun p82 => some [p82.1, p79.1]).bind fun q83 => cl1 (C "_law_fraction" (q83 ++ []))).bind fun p89 => ((((((ix (.lst ys76) (.int 1)).bind fun p84 => op2 .Mod p84.1 (.int 11)).bind fun p85 => op2 .Sub p85.1 (.int 5)).bind fun p86 => some [p86.1, p79.1]).bind fun q87 => cl1 (C "_law_fraction" (q87 ++ []))).bind fun p88 => some [p88.1]).map fun q90 => p89.1 :: q90).bind fun q91 => sh (.tup q91)).bind fun p92 => K' ys76 p92) = K' (rl 4 fun i => .int (f i)) (pt (drawnPt (f 0 % 11 - 5) (f 1 % 11 - 5) (1 + f 2 % 3)), false) := fun K' => by
        rw [op2_add, sh_bind, show ((6 : Int) + (k : Nat)) = ((6 + k : Nat) : Int) by omega]
        simp only [ob_some, om_some, List.append_nil]
        rw [hcc]
        simp only [cl1_sh, sh_bind, ob_some, List.append_nil]
        rw [show (PV.int 4) = PV.int ((4 : Nat) : Int) from rfl, show (PV.int 1000) = PV.int ((1000 : Nat) : Int) from rfl, hr]
        simp only [cl2_own, ownO_own, ob_some, r0, r1, r2, sh_bind]
        rw [op2_mods (by omega), sh_bind, op2_add, sh_bind, op2_mods (by omega), sh_bind, op2_sub, sh_bind, op2_mods (by omega), sh_bind, op2_sub, sh_bind]
        simp only [ob_some, List.append_nil]
        rw [small_frac hf hd, small_frac hf hd]
        simp only [cl1_sh, sh_bind, ob_some, om_some]
        rfl
      have tst0 : ((ix (.lst (rl 4 fun i => .int (f i))) (.int 3)).bind fun p101 => op2 .Mod p101.1 (.int 7)).bind (fun p102 => cmp .Eq p102.1 (.int 0)) = some (decide (f 3 % 7 = 0)) := by
        rw [r3, sh_bind, op2_mods (by omega), sh_bind, cmp_eq, eqD_int]
      have tst1 : ((ix (.lst (rl 4 fun i => .int (f i))) (.int 3)).bind fun p101 => op2 .Mod p101.1 (.int 7)).bind (fun p102 => cmp .Eq p102.1 (.int 1)) = some (decide (f 3 % 7 = 1)) := by
        rw [r3, sh_bind, op2_mods (by omega), sh_bind, cmp_eq, eqD_int]
      have ne : cmp .NotEq (.lst (F.map pt)) (.lst []) = some (!decide (F = [])) := by
        rw [cmp_ne, show (PV.lst []) = poly [] from rfl, show PV.lst (F.map pt) = poly F from rfl, eqD_poly, om_some]
      have gt : (bltV "len" [(.lst (F.map pt))]).bind (fun p123 => cmp .Gt p123.1 (.int 1)) = some (decide ((1 : Int) < F.length)) := by
        rw [len_map, sh_bind, cmp_gt]
      by_cases h0 : f 3 % 7 = 0 ∧ F ≠ []
      · have hFl : 0 < F.length := List.length_pos_iff.mpr h0.2
        have m1 := Int.emod_lt_of_pos (f 3 / 7) (show (0 : Int) < F.length by omega)
        have m2 := Int.emod_nonneg (f 3 / 7) (show (F.length : Int) ≠ 0 by omega)
        obtain ⟨j, hjz⟩ : ∃ j : Nat, f 3 / 7 % (F.length : Int) = j := ⟨(f 3 / 7 % F.length).toNat, by omega⟩
        have hj : j < F.length := by omega
        have e1 : F[j]? = some F[j] := List.getElem?_eq_getElem hj
        refine ⟨F[j], hok _ (List.getElem_mem hj), fun h2 => hsix _ _ (by omega) e1, fun kn kb => ?_⟩
        dsimp only
        rw [start]
        rw [tst0, tst1, ne, gt, r3]
        have n1 : ¬ f 3 % 7 = 1 := by omega
        simp only [h0.1, h0.2, decide_true, decide_false, Bool.not_false, if_true, ob_some, sh_bind]
        rw [op2_divs (by omega) (by omega), sh_bind, len_map, sh_bind, op2_mods (by omega), sh_bind, hjz]
        have e2 : ix (.lst (F.map pt)) (.int (j : Nat)) = sh (pt F[j]) := ix_poly e1
        rw [e2]
        have n01 : decide ((0 : Int) = 1) = false := rfl
        simp only [sh_bind, pt_flat, if_true, n01, Bool.false_eq_true, if_false, ob_some]
      · have c0 : (if (decide (f 3 % 7 = 0)) = true then some (!decide (F = [])) else some false) = some false := by
          by_cases z : f 3 % 7 = 0
          · have : F = [] := by
              by_cases w : F = []
              · exact w
              · exact absurd ⟨z, w⟩ h0
            simp [z, this]
          · simp [z]
        by_cases h1 : f 3 % 7 = 1 ∧ 1 < F.length
        · have a0 : F[0]? = some (F[0]'(by omega)) := List.getElem?_eq_getElem _
          have a1 : F[1]? = some (F[1]'h1.2) := List.getElem?_eq_getElem _
          have o0 := hok _ (List.mem_of_getElem? a0)
          have o1 := hok _ (List.mem_of_getElem? a1)
          refine ⟨((F[0].1 + F[1].1) * (1 / 2), (F[0].2 + F[1].2) * (1 / 2)), mid_ok (hsix 0 _ (by omega) a0) (hsix 1 _ (by omega) a1) o0.2 o1.2, fun h2 => by omega, fun kn kb => ?_⟩
          dsimp only
          rw [start]
          rw [tst0, tst1, ne, gt, ob_some, c0]
          simp only [ob_some, Bool.false_eq_true, if_false, h1.1, decide_true, if_true]
          rw [show decide ((1 : Int) < F.length) = true from decide_eq_true (by omega)]
          simp only [if_true]
          rw [rng_two, ob_some]
          have b0 := o0.gr.bp
          have b1 := o1.gr.bp
          have x1 := b0.1; have x2 := b0.2; have y1 := b1.1; have y2 := b1.2
          have p0 : ix (.lst (F.map pt)) (.int 0) = sh (pt F[0]) := ix_poly (k := 0) a0
          have p1 : ix (.lst (F.map pt)) (.int 1) = sh (pt F[1]) := ix_poly (k := 1) a1
          rw [comp_two (x := fr ((F[0].1 + F[1].1) * (1 / 2))) (y := fr ((F[0].2 + F[1].2) * (1 / 2))) (by
            simp only [p0, p1, i0, sh_bind, ob_some, om_some, List.append_nil]
            rw [hmid _ _ (by omega)]
            rfl) (by
            simp only [p0, p1, i1, sh_bind, ob_some, om_some, List.append_nil]
            rw [hmid _ _ (by omega)]
            rfl)]
          simp only [ob_some, tuple_lst, sh_bind, pt_tup, pt_flat, if_true]
        · have c1 : (if (decide (f 3 % 7 = 1)) = true then some (decide ((1 : Int) < F.length)) else some false) = some false := by
            by_cases z : f 3 % 7 = 1
            · have : ¬ (1 : Int) < F.length := fun w => h1 ⟨z, by omega⟩
              simp [z, this]
            · simp [z]
          refine ⟨drawnPt (f 0 % 11 - 5) (f 1 % 11 - 5) (1 + f 2 % 3), six_ok d6 dq, fun _ => d6, fun kn kb => ?_⟩
          dsimp only
          rw [start]
          rw [tst0, tst1, ne, gt, ob_some, ob_some, c0, c1]
          simp only [ob_some, Bool.false_eq_true, if_false]
    obtain ⟨p, hp, h6, hstep⟩ := main
    obtain ⟨s', q1, q2⟩ := fin p hp h6
    refine ⟨s', q1, fun kn kb => ?_⟩
    rw [← q2 kn]
    exact hstep kn kb
  · intro s hs
    obtain ⟨F, rfl, hl, hok, _⟩ := hs
    exact ⟨F, by omega, hok, rfl⟩
end
end K66

namespace K66
open PySem L2 Pv
section
variable {C : Cl}
theorem gr_bp {N : Nat} {P : List Pt} (h : ∀ x ∈ P, Gr N x) : ∀ x ∈ P, Bp 200 x := fun x hx => (h x hx).bp.w
/-! ### the hull is right -/
theorem t_right (hh : ∀ pts : List Pt, (∀ x ∈ pts, Bp 200 x) → pts.length ≤ 500 → cl1 (C "hull" [poly pts]) = sh (poly (hull pts))) (hl : S_lhull C)
    (hz : ∀ P : List Pt, (∀ x ∈ P, Gr 36 x) → P.length ≤ 1000 → C "size_of" [poly P] = sh (fr (twice P))) (hs : ∀ P : List Pt, (∀ x ∈ P, Gr 36 x) → P.length ≤ 1000 → C "_law_shoelace" [poly P] = sh (fr (sumC area P)))
    {pts : List Pt} (hp : ∀ x ∈ pts, Gr 36 x) (hn : pts.length ≤ 100) : mm__law_right_hull C (poly pts) = sh (.bl true) := by
  have hb := gr_bp hp
  unfold mm__law_right_hull
  simp only [jn_def]
  have e0 : ∀ P : List Pt, bltV "list" [poly P] = some (poly P, true) := fun P => list_lst
  have ne : ∀ P : List Pt, cmp .NotEq (poly P) (.lst []) = some (!decide (P = [])) := fun P => by
    rw [cmp_ne, show (PV.lst []) = poly [] from rfl, eqD_poly, om_some]
  have eq0 : ∀ P : List Pt, cmp .Eq (poly P) (.lst []) = some (decide (P = [])) := fun P => by
    rw [cmp_eq, show (PV.lst []) = poly [] from rfl, eqD_poly]
  have own : ∀ P : List Pt, ownO (some (poly P, true)) = some (P.map pt) := fun P => rfl
  have self : ∀ P : List Pt, cmp .NotEq (poly P) (poly P) = some false := fun P => by rw [cmp_ne, eqD_poly, om_some]; simp
  rw [ne, ob_some, e0, own, ob_some]
  have hmem : ∀ x ∈ hull pts, x ∈ pts := fun x hx => by
    by_cases hc : ∀ a ∈ pts, ∀ b ∈ pts, ∀ c ∈ pts, turn a b c = 0
    · rw [hull_flat hc] at hx; cases hx
    · exact (hull_ok hc).mem x hx
  have hlen : (hull pts).length ≤ 100 := by
    by_cases hc : ∀ a ∈ pts, ∀ b ∈ pts, ∀ c ∈ pts, turn a b c = 0
    · rw [hull_flat hc]; simp
    · have := (hull_ok hc).most; omega
  have hg : ∀ x ∈ hull pts, Gr 36 x := fun x hx => hp x (hmem x hx)
  have rest : ∀ due : List Pt, due = hull pts → ((cl1 (C "hull" [.lst (pts.map pt)])).bind fun p10 => ((cmp .NotEq (.lst (pts.map pt)) (poly pts)).bind fun b13 => if b13 then some true else cmp .NotEq p10.1 (.lst (due.map pt))).bind fun t11 => if t11 then sh (.bl false) else (cmp .Eq (.lst (due.map pt)) (.lst [])).bind fun t12 => if t12 then sh (.bl true) else
      (((((bltV "list" [(.lst (due.map pt))]).bind fun p14 => some [p14.1]).bind fun q15 => cl1 (C "size_of" (q15 ++ []))).bind fun p16 => (cl1 (C "_law_shoelace" [(.lst (due.map pt))])).bind fun p17 => cmpV .Eq p16.1 p17.1).bind fun p19 => (blOf p19.1).bind fun b18 => if b18 then ((((sl (.lst (due.map pt)) (some 1) none).bind fun p20 => (sl (.lst (due.map pt)) none (some 1)).bind fun p21 => op2 .Add p20.1 p21.1).bind fun p22 => some [p22.1]).bind fun q23 => cl1 (C "size_of" (q23 ++ []))).bind fun p24 => (cl1 (C "_law_shoelace" [(.lst (due.map pt))])).bind fun p25 => cmpV .Eq p24.1 p25.1 else sh (.bl false)).bind fun p26 => some (p26.1, p26.2)) = sh (.bl true) := fun due hdue => by
    subst hdue
    have h1 := hh pts hb (by omega)
    have h1' : cl1 (C "hull" [.lst (pts.map pt)]) = sh (poly (hull pts)) := h1
    rw [h1', sh_bind]
    have s1 := self pts
    have s2 := self (hull pts)
    have s1' : cmp .NotEq (.lst (pts.map pt)) (poly pts) = some false := s1
    have s2' : cmp .NotEq (poly (hull pts)) (.lst ((hull pts).map pt)) = some false := s2
    rw [s1', ob_some]
    simp only [Bool.false_eq_true, if_false]
    rw [s2', ob_some]
    simp only [Bool.false_eq_true, if_false]
    have s3 : cmp .Eq (.lst ((hull pts).map pt)) (.lst []) = some (decide (hull pts = [])) := eq0 (hull pts)
    rw [s3, ob_some]
    by_cases hz0 : hull pts = []
    · rw [if_pos (decide_eq_true hz0)]
    · rw [if_neg (by simpa using hz0)]
      obtain ⟨a, r, hH⟩ : ∃ a r, hull pts = a :: r := by
        cases h : hull pts with
        | nil => exact absurd h hz0
        | cons a r => exact ⟨a, r, rfl⟩
      rw [hH] at hg hlen ⊢
      have z1 := hz (a :: r) hg (by omega)
      have z2 := hs (a :: r) hg (by omega)
      have z3 := hz (r ++ [a]) (fun x hx => hg x (by simp at hx ⊢; grind)) (by simp at hlen ⊢; omega)
      have z1' : C "size_of" [.lst ((a :: r).map pt)] = sh (fr (twice (a :: r))) := z1
      have z2' : C "_law_shoelace" [.lst ((a :: r).map pt)] = sh (fr (sumC area (a :: r))) := z2
      have z3' : C "size_of" [.lst ((r ++ [a]).map pt)] = sh (fr (twice (r ++ [a]))) := z3
      have d1 : sl (.lst ((a :: r).map pt)) (some 1) none = sh (.lst (r.map pt)) := by
        have := sl_from (xs := (a :: r).map pt) (n := 1) (by simp)
        rw [show ((1 : Nat) : Int) = 1 from rfl] at this
        rw [this]
        rfl
      have d2 : sl (.lst ((a :: r).map pt)) none (some 1) = sh (.lst [pt a]) := by
        have := sl_to (xs := (a :: r).map pt) (n := 1) (by simp)
        rw [show ((1 : Nat) : Int) = 1 from rfl] at this
        rw [this]
        rfl
      rw [list_lst, d1, d2]
      simp only [ob_some, List.append_nil, sh_bind]
      rw [op2_cat (by simp at hlen ⊢; omega), z1', z2']
      simp only [cl1_sh, sh_bind, ob_some, cmpV_def, cmp_eq, eqD_fr, twice_sum, decide_true, blOf_bl, if_true, List.append_nil]
      rw [show r.map pt ++ [pt a] = (r ++ [a]).map pt by simp, z3']
      simp only [cl1_sh, sh_bind, cmp_eq, eqD_fr, ob_some, twice_sum, sumC_rot, decide_true]
      rfl
  by_cases hpn : pts = []
  · subst hpn
    simp only [decide_true, Bool.not_true, Bool.false_eq_true, if_false]
    exact rest [] rfl
  · simp only [hpn, decide_false, Bool.not_false, if_true]
    rw [hl pts hpn hb (by omega)]
    have e3 : cl2 (some (poly (hull pts), true)) = some (poly (hull pts), true) := cl2_own
    rw [e3, own, ob_some]
    exact rest (hull pts) rfl
/-! ### a polygon that is drawn -/
theorem t_drawn (hrow : S_row C) (hf : A_lfraction C) (hl : S_lhull C) (cell : Nat) : ∃ P : List Pt, GP P ∧ mm__law_drawn C (.int cell) = some (poly P, true) := by
  obtain ⟨f, hfb, hr⟩ := hrow cell 13 1000 (by omega) (by omega) (by omega)
  unfold mm__law_drawn
  simp only [jn_def]
  rw [show (PV.int 13) = PV.int ((13 : Nat) : Int) from rfl, show (PV.int 1000) = PV.int ((1000 : Nat) : Int) from rfl, hr]
  simp only [cl2_own, ownO_own, ob_some]
  rw [show ((13 : Nat) : Int) = 13 from rfl]
  have g0 : ∀ i : Nat, i < 13 → ix (.lst (rl 13 fun i => .int (f i))) (.int (i : Nat)) = sh (.int (f i)) := fun i hi => ix_rlL hi
  have g12 := g0 12 (by omega)
  rw [show ((12 : Nat) : Int) = 12 from rfl] at g12
  have f12 := hfb 12
  rw [g12]
  simp only [sh_bind]
  rw [op2_mods (by omega), sh_bind, op2_add, sh_bind]
  obtain ⟨n, hn⟩ : ∃ n : Nat, (3 : Int) + f 12 % 4 = n := ⟨(3 + f 12 % 4).toNat, by omega⟩
  have hn3 : 3 ≤ n ∧ n ≤ 6 := by omega
  rw [hn, rng1_ok (by omega), ob_some]
  let q : Nat → Pt := fun k => drawnPt (f (2 * k) % 13 - 6) (f (2 * k + 1) % 13 - 6) (1 + f (2 * k) / 13 % 3)
  have hq : ∀ k, Six (q k) ∧ Sq (q k) := fun k => by
    have a := hfb (2 * k)
    have b := hfb (2 * k + 1)
    exact drawn_ok (dv (by omega)) (by omega) (by omega)
  have sB : bz 1 = 1 := by decide +kernel
  rw [forC_rng (s0 := ([] : List PV)) n (fun k => rl k fun i => pt (q i)) rfl (fun k hk kn kb => by
    have a := hfb (2 * k)
    have b := hfb (2 * k + 1)
    have hd := dv (x := f (2 * k) / 13) (by omega)
    have m2 : mulOk 2 (k : Int) = true := mulOk_nb (by
      have : nb ((k : Int).natAbs) ≤ 3 := nb_le (by omega) (by omega)
      have : nb ((2 : Int).natAbs) = 2 := by decide
      omega)
    rw [op2_mul m2, sh_bind, show ((2 : Int) * (k : Nat)) = ((2 * k : Nat) : Int) by omega, g0 (2 * k) (by omega)]
    simp only [sh_bind]
    rw [op2_divs (by omega) (by omega), sh_bind, op2_mods (by omega), sh_bind, op2_add, sh_bind]
    rw [op2_mods (by omega), sh_bind, op2_sub, sh_bind, op2_add, sh_bind, show (((2 * k : Nat) : Int) + 1) = ((2 * k + 1 : Nat) : Int) by omega, g0 (2 * k + 1) (by omega)]
    simp only [sh_bind]
    rw [op2_mods (by omega), sh_bind, op2_sub, sh_bind]
    simp only [ob_some, List.append_nil]
    rw [small_frac hf hd, small_frac hf hd]
    simp only [cl1_sh, sh_bind, ob_some, om_some]
    rw [push_rl (by omega) (show PV.tup [fr (Rat.divInt (f (2 * k) % 13 - 6) (1 + f (2 * k) / 13 % 3)), fr (Rat.divInt (f (2 * k + 1) % 13 - 6) (1 + f (2 * k) / 13 % 3))] = pt (q k) from rfl), ob_some])]
  have e1 : PV.lst (rl n fun i => pt (q i)) = poly ((List.range n).map q) := by
    unfold poly rl
    rw [List.map_map]
    rfl
  have hb : ∀ x ∈ (List.range n).map q, Six x ∧ Sq x := fun x hx => by
    obtain ⟨k, _, rfl⟩ := List.mem_map.mp hx
    exact hq k
  have hne : (List.range n).map q ≠ [] := by
    intro h
    have := congrArg List.length h
    simp at this
    omega
  have hlen : ((List.range n).map q).length = n := by simp
  have hH := hl ((List.range n).map q) hne (fun x hx => (six_gr (hb x hx).1 (hb x hx).2).bp.w) (by omega)
  rw [e1, hH]
  have e2 : cl2 (some (poly (hull ((List.range n).map q)), true)) = some (poly (hull ((List.range n).map q)), true) := cl2_own
  have e3 : ownO (some (poly (hull ((List.range n).map q)), true)) = some ((hull ((List.range n).map q)).map pt) := rfl
  rw [e2, e3]
  simp only [ob_some]
  have e4 : cmp .Eq (.lst ((hull ((List.range n).map q)).map pt)) (.lst []) = some (decide (hull ((List.range n).map q) = [])) := by
    rw [cmp_eq]; exact eqD_poly (Q := [])
  rw [e4, ob_some]
  by_cases hz : hull ((List.range n).map q) = []
  · refine ⟨triangle, gp_triangle, ?_⟩
    rw [if_pos (decide_eq_true hz)]
    rfl
  · refine ⟨hull ((List.range n).map q), gp_hull (hull_ok fun hc => hz (hull_flat hc)) (fun x hx => (hb x hx).1) (fun x hx => (hb x hx).2) (by omega), ?_⟩
    rw [if_neg (by simpa using hz)]
    rfl
end
end K66

/-! The law, from what its defs tell -/
namespace K66
open PySem L2 Pv

theorem jn_at {S : Type} {R : S → Out} {A : (S → Out) → Out} {r : Out} (s : S) (hA : ∀ j, A j = j s) (hR : R s = r) : jn R A = r := by
  rw [jn_def, hA, hR]
structure Sp (C : Cl) (V : PV) : Prop where
  cell : S_cell C V
  row : S_row C
  lfr : A_lfraction C
  points : ∃ pts : List Pt, pts.length ≤ 10 ∧ (∀ x ∈ pts, okPt x) ∧ C "_law_points" [V] = some (poly pts, true)
  right : ∀ pts : List Pt, (∀ x ∈ pts, Gr 36 x) → pts.length ≤ 100 → C "_law_right_hull" [poly pts] = sh (.bl true)
  drawn : ∀ c : Nat, ∃ P : List Pt, GP P ∧ C "_law_drawn" [.int (c : Int)] = some (poly P, true)
  ladd : B_add C "_law_plus"
  lsub : B_sub C "_law_minus"
  left : S_left C
  isleft : ∀ (R : List Pt) (s e : Pt), (∀ x ∈ R, Bp 200 x) → Bp 200 s → Bp 200 e → R.length ≤ 1000000 → (∀ x ∈ R, 0 ≤ turn s e x) → (R = [] ∨ 2 < R.length) → C "_law_is_left" [poly R, pt s, pt e] = sh (.bl true)
  size : ∀ (N : Nat) (P : List Pt), OKN N → (∀ x ∈ P, Gr N x) → P.length ≤ 500000 → C "size_of" [poly P] = sh (fr (twice P))
  ltwice : ∀ (N : Nat) (P : List Pt), OKN N → (∀ x ∈ P, Gr N x) → P.length ≤ 500000 → C "_law_twice" [poly P] = sh (fr (twice P))
  lclip : S_lclip C
  shared : ∀ (N : Nat) (Cp : List Pt → Prop) (P : List Pt) (os : List (List Pt)), OKN N → (∀ P, Cp P → ∀ x ∈ P, Gr N x) → (∀ o ∈ os, GoodC N Cp (sidesOf o) ∧ o.length ≤ 6) → Cp P → P.length * 64 ^ os.length ≤ 300000 → os.length ≤ 1000 → C "_law_shared" [.lst (poly P :: os.map poly)] = sh (fr (twice (clipAll (shS os) P)))
  without : ∀ (N : Nat) (Cp : List Pt → Prop) (P : List Pt) (os : List (List Pt)) (B : Nat), OKN N → (∀ P, Cp P → ∀ x ∈ P, Gr N x) → Cp P → os.length ≤ 1000 → P.length ≤ B → Fit N Cp os B 1 → C "without" [poly P, .lst (os.map poly)] = sh (fr (tot area (cutMany (os.map sidesOf) [P])))

def sumL : List (List Pt) → Nat
  | [] => 0
  | o :: r => o.length + sumL r
def allS : List (List Pt) → List Side
  | [] => []
  | o :: r => sidesOf o ++ allS r
theorem allS_len : ∀ os, (allS os).length = sumL os
  | [] => rfl
  | o :: r => by simp only [allS, sumL, List.length_append, sides_len, allS_len r]
theorem allS_mem {os : List (List Pt)} {o : List Pt} (h : o ∈ os) : ∀ q ∈ sidesOf o, q ∈ allS os := by
  induction os with
  | nil => cases h
  | cons a r ih =>
    intro q hq
    simp only [allS]
    rcases List.mem_cons.mp h with rfl | h
    · exact List.mem_append_left _ hq
    · exact List.mem_append_right _ (ih h q hq)
theorem gp_bs {P : List Pt} (h : GP P) : ∀ q ∈ sidesOf P, Bp 19 q.1 ∧ Bp 19 q.2 := fun q hq => by
  obtain ⟨m1, m2⟩ := sides_mem hq
  exact ⟨(six_gr (h.six _ m1) (h.sq _ m1)).bp, (six_gr (h.six _ m2) (h.sq _ m2)).bp⟩
theorem gp_bp {P : List Pt} (h : GP P) : ∀ x ∈ P, Bp 19 x := fun x hx => (six_gr (h.six x hx) (h.sq x hx)).bp
/-- the lines of some polygons -/
theorem lines_all {os : List (List Pt)} (h : ∀ o ∈ os, GP o) (hn : sumL os ≤ 18) : ∃ L : List Line, OKN (NN L) ∧ (∀ l ∈ L, l.ok) ∧ ∀ o ∈ os, ∀ q ∈ sidesOf o, ∃ l ∈ L, IsLn q l := by
  have key : ∀ q ∈ allS os, ∃ l : Line, l.ok ∧ IsLn q l := by
    clear hn
    induction os with
    | nil => intro q hq; cases hq
    | cons a r ih =>
      intro q hq
      simp only [allS] at hq
      rcases List.mem_append.mp hq with hq | hq
      · exact gp_lines (h a (by simp)) q hq
      · exact ih (fun o ho => h o (List.mem_cons_of_mem _ ho)) q hq
  obtain ⟨L, l1, l2, l3⟩ := lines_of (allS os) key
  exact ⟨L, okn l2 (by rw [l1, allS_len]; exact hn), l2, fun o ho q hq => l3 q (allS_mem ho q hq)⟩
/-- the cut by a line of the law's own -/
theorem side_facts {F : List Pt} (hF : GP F) {st en : Pt} (h1 : Six st) (h2 : Six en) (hne : st ≠ en) (d1 : -12 ≤ en.1 - st.1 ∧ en.1 - st.1 ≤ 12) (d2 : -12 ≤ en.2 - st.2 ∧ en.2 - st.2 ≤ 12) :
    ∃ L : List Line, OKN (NN L) ∧ Poly L F ∧ Poly L (clip st en F) ∧ Poly L (leftOf (st, en) F) ∧ Poly L (leftOf (en, st) F) := by
  obtain ⟨l0, hl0, hi0⟩ := line_of (h := (st, en)) h1.1 h1.2 h2.1 h2.2 hne d1 d2
  obtain ⟨L, l1, l2, l3⟩ := lines_of ((st, en) :: sidesOf F) fun q hq => by
    rcases List.mem_cons.mp hq with rfl | hq
    · exact ⟨l0, hl0, hi0⟩
    · exact gp_lines hF q hq
  have hP := gp_poly hF fun q hq => l3 q (List.mem_cons_of_mem _ hq)
  obtain ⟨m, hm, hi⟩ := l3 (st, en) (by simp)
  have hc := clip_poly l2 hm hi hP
  refine ⟨L, okn l2 (by rw [l1]; simp only [List.length_cons, sides_len]; have := hF.l2; omega), hP, hc, filt_poly hc, filt_poly (clip_polyR l2 hm hi hP)⟩
theorem eq_polys {os : List (List Pt)} : cmp .NotEq (.lst (os.map poly)) (.lst (os.map poly)) = some false := by
  have h1 : (PV.lst (os.map poly)).pl = true := by
    show PV.pls _ = true
    rw [pls_all]
    intro x hx
    obtain ⟨P, _, rfl⟩ := List.mem_map.mp hx
    exact map_pl P
  have h2 : (PV.lst (os.map poly)).dp ≤ 64 := by
    show PV.dps _ + 1 ≤ 64
    have : PV.dps (os.map poly) ≤ 3 := by
      rw [dps_le]
      intro x hx
      obtain ⟨P, _, rfl⟩ := List.mem_map.mp hx
      have := map_dp P
      show PV.dps _ + 1 ≤ 3
      omega
    omega
  rw [cmp_ne, eqD_self h1 h2]
  rfl
theorem fr_int (i : Int) : PV.tup [.int i, .int 1] = fr (i : Rat) := rfl
theorem bz_i {i : Int} (h : i.natAbs < 16) : bz (i : Rat) ≤ 5 := by
  have e : (i : Rat) = Rat.divInt i 1 := by rw [Rat.divInt_eq_div, show ((1 : Int) : Rat) = 1 from rfl]; grind
  rw [e]
  exact bz_divInt (nb_le (by omega) (by omega)) (by decide)
theorem leftOf_or (h : Side) (P : List Pt) : leftOf h P = [] ∨ 2 < (leftOf h P).length := by
  unfold leftOf filt
  split
  · right; assumption
  · left; rfl
def d1Of (F : List Pt) (os : List (List Pt)) : Rat := os.foldl (fun d o => d - twice (clipAll (shS [o]) F)) (twice F)
def dueOf (F : List Pt) (os : List (List Pt)) : Rat := if os.length = 2 then d1Of F os + twice (clipAll (shS os) F) else d1Of F os
theorem due_eq {F : List Pt} {os : List (List Pt)} (hl : os.length ≤ 2) (ok : ∀ o ∈ os, Ok (sidesOf o)) : tot area (cutMany (os.map sidesOf) [F]) = dueOf F os := by
  match os, hl, ok with
  | [], _, _ =>
    have : dueOf F [] = twice F := rfl
    rw [this]
    simp only [List.map_nil, cutMany, tot, twice_sum]
    grind
  | [x], _, ok =>
    have : dueOf F [x] = twice F - twice (clipAll (shS [x]) F) := rfl
    rw [this]
    simp only [List.map_cons, List.map_nil, shS, List.append_nil]
    exact cut_one (ok x (by simp)) F
  | [x, y], _, ok =>
    have : dueOf F [x, y] = twice F - twice (clipAll (shS [x]) F) - twice (clipAll (shS [y]) F) + twice (clipAll (shS [x, y]) F) := rfl
    rw [this]
    simp only [List.map_cons, List.map_nil, shS, List.append_nil]
    exact cut_two (ok x (by simp)) (ok y (by simp)) F
  | _ :: _ :: _ :: _, h, _ => simp at h
theorem law_ok {C : Cl} {V : PV} (sp : Sp C V) : mm_law C V = sh (.bl true) := by
  obtain ⟨pts, pl, pok, epts⟩ := sp.points
  have eright := sp.right pts (fun x hx => (pok x hx).gr) (by omega)
  obtain ⟨c0, e0⟩ := sp.cell 0
  obtain ⟨F, hF, eF⟩ := sp.drawn c0
  obtain ⟨c3, e3⟩ := sp.cell 3
  obtain ⟨c4, e4⟩ := sp.cell 4
  obtain ⟨f, hfb, er⟩ := sp.row c4 4 1000 (by omega) (by omega) (by omega)
  have hD : ∃ D : Nat → List Pt, ∀ k : Nat, GP (D k) ∧ ∃ c : Nat, C "_law_cell" [V, .int ((1 + k : Nat) : Int)] = sh (.int (c : Int)) ∧ C "_law_drawn" [.int (c : Int)] = some (poly (D k), true) := by
    have : ∀ k : Nat, ∃ P : List Pt, GP P ∧ ∃ c : Nat, C "_law_cell" [V, .int ((1 + k : Nat) : Int)] = sh (.int (c : Int)) ∧ C "_law_drawn" [.int (c : Int)] = some (poly P, true) := fun k => by
      obtain ⟨c, ec⟩ := sp.cell (1 + k)
      obtain ⟨P, hP, eP⟩ := sp.drawn c
      exact ⟨P, hP, c, ec, eP⟩
    exact Classical.skolem.mp this
  obtain ⟨D, hD⟩ := hD
  have hm2 : c3 % 3 ≤ 2 := by omega
  generalize hos : (List.range (c3 % 3)).map D = os
  have hosg : ∀ o ∈ os, GP o := fun o ho => by
    rw [← hos] at ho
    obtain ⟨k, _, rfl⟩ := List.mem_map.mp ho
    exact (hD k).1
  have hosl : os.length ≤ 2 := by rw [← hos]; simp; exact hm2
  have f0 := hfb 0; have f1 := hfb 1; have f2 := hfb 2; have f3 := hfb 3
  have g0 : ∀ i : Nat, i < 4 → ix (.lst (rl 4 fun i => .int (f i))) (.int (i : Nat)) = sh (.int (f i)) := fun i hi => ix_rlL hi
  have r0 := g0 0 (by omega); have r1 := g0 1 (by omega); have r2 := g0 2 (by omega); have r3 := g0 3 (by omega)
  rw [show ((0 : Nat) : Int) = 0 from rfl] at r0
  rw [show ((1 : Nat) : Int) = 1 from rfl] at r1
  rw [show ((2 : Nat) : Int) = 2 from rfl] at r2
  rw [show ((3 : Nat) : Int) = 3 from rfl] at r3
  -- the line
  obtain ⟨st, hst⟩ : ∃ st : Pt, st = (Rat.divInt (f 0 % 13 - 6) 2, Rat.divInt (f 1 % 13 - 6) 2) := ⟨_, rfl⟩
  obtain ⟨en, hen⟩ : ∃ en : Pt, en = (st.1 + ((1 + f 2 % 5 : Int) : Rat), st.2 + ((f 3 % 9 - 4 : Int) : Rat)) := ⟨_, rfl⟩
  obtain ⟨a1, a2, a3⟩ := drawn_part (n := f 0 % 13 - 6) (d := 2) (by omega) (by omega) (by omega)
  obtain ⟨b1, b2, b3⟩ := drawn_part (n := f 1 % 13 - 6) (d := 2) (by omega) (by omega) (by omega)
  have s6 : Six st := by rw [hst]; exact ⟨a1, b1⟩
  have w1 : Wh (6 * ((1 + f 2 % 5 : Int) : Rat)) := (Wh.int 6).mul (Wh.int _)
  have w2 : Wh (6 * ((f 3 % 9 - 4 : Int) : Rat)) := (Wh.int 6).mul (Wh.int _)
  have e6 : Six en := by
    rw [hen]
    refine ⟨?_, ?_⟩
    · have := s6.1.add w1
      rw [← Rat.mul_add] at this
      exact this
    · have := s6.2.add w2
      rw [← Rat.mul_add] at this
      exact this
  have k1 : (1 : Rat) ≤ ((1 + f 2 % 5 : Int) : Rat) ∧ ((1 + f 2 % 5 : Int) : Rat) ≤ 5 := by
    have u : (1 : Int) ≤ 1 + f 2 % 5 := by omega
    have v : 1 + f 2 % 5 ≤ (5 : Int) := by omega
    have u' := Rat.intCast_le_intCast.mpr u
    have v' := Rat.intCast_le_intCast.mpr v
    exact ⟨u', v'⟩
  have k2 : (-4 : Rat) ≤ ((f 3 % 9 - 4 : Int) : Rat) ∧ ((f 3 % 9 - 4 : Int) : Rat) ≤ 4 := by
    have u : (-4 : Int) ≤ f 3 % 9 - 4 := by omega
    have v : f 3 % 9 - 4 ≤ (4 : Int) := by omega
    have u' := Rat.intCast_le_intCast.mpr u
    have v' := Rat.intCast_le_intCast.mpr v
    exact ⟨u', v'⟩
  have hne : st ≠ en := fun z => by
    have : st.1 = en.1 := by rw [← z]
    rw [hen] at this
    simp only at this
    grind
  have hd1 : -12 ≤ en.1 - st.1 ∧ en.1 - st.1 ≤ 12 := by rw [hen]; simp only; grind
  have hd2 : -12 ≤ en.2 - st.2 ∧ en.2 - st.2 ≤ 12 := by rw [hen]; simp only; grind
  have q1 : bz st.1 ≤ 5 := by rw [hst]; exact bz_divInt (nb_le (by omega) (by omega)) (by decide)
  have q2 : bz st.2 ≤ 5 := by rw [hst]; exact bz_divInt (nb_le (by omega) (by omega)) (by decide)
  have q3 : bz ((1 + f 2 % 5 : Int) : Rat) ≤ 5 := bz_i (by omega)
  have q4 : bz ((f 3 % 9 - 4 : Int) : Rat) ≤ 5 := bz_i (by omega)
  have q5 : bz en.1 ≤ 11 := by have := bz_add st.1 ((1 + f 2 % 5 : Int) : Rat); rw [hen]; simp only; omega
  have q6 : bz en.2 ≤ 11 := by have := bz_add st.2 ((f 3 % 9 - 4 : Int) : Rat); rw [hen]; simp only; omega
  have bst : Bp 19 st := ⟨by omega, by omega⟩
  have ben : Bp 19 en := ⟨by omega, by omega⟩
  obtain ⟨L1, n1, p1, p2, p3, p4⟩ := side_facts hF s6 e6 hne hd1 hd2
  have gF : ∀ x ∈ F, Gr (NN L1) x := fun x hx => vt_gr (p1.vt x hx)
  have gC : ∀ x ∈ clip st en F, Gr (NN L1) x := fun x hx => vt_gr (p2.vt x hx)
  have gO : ∀ x ∈ leftOf (st, en) F, Gr (NN L1) x := fun x hx => vt_gr (p3.vt x hx)
  have gT : ∀ x ∈ leftOf (en, st) F, Gr (NN L1) x := fun x hx => vt_gr (p4.vt x hx)
  have hFl := hF.l2
  have lC := clip_len (s := st) (e := en) F
  have lO : (leftOf (st, en) F).length ≤ 12 := by have := filt_len (clip st en F); show (filt (clip st en F)).length ≤ 12; omega
  have lT : (leftOf (en, st) F).length ≤ 12 := by have := filt_len (clip en st F); have := clip_len (s := en) (e := st) F; show (filt (clip en st F)).length ≤ 12; omega
  -- the lines of all polygons
  have hall : ∀ o ∈ F :: os, GP o := fun o ho => by
    rcases List.mem_cons.mp ho with rfl | ho
    · exact hF
    · exact hosg o ho
  have hsum : sumL (F :: os) ≤ 18 := by
    match os, hosl, hosg with
    | [], _, _ => simp only [sumL]; omega
    | [x], _, hg => have := (hg x (by simp)).l2; simp only [sumL]; omega
    | [x, y], _, hg => have := (hg x (by simp)).l2; have := (hg y (by simp)).l2; simp only [sumL]; omega
    | _ :: _ :: _ :: _, h, _ => simp at h
  obtain ⟨L, nL, okL, lnL⟩ := lines_all hall hsum
  have pF : Poly L F := gp_poly hF fun q hq => lnL F (by simp) q hq
  have gL : ∀ P, Poly L P → ∀ x ∈ P, Gr (NN L) x := fun P hP x hx => vt_gr (hP.vt x hx)
  have hgc : ∀ o ∈ os, GoodC (NN L) (Poly L) (sidesOf o) ∧ o.length ≤ 6 := fun o ho => ⟨goodc okL fun q hq => ⟨gp_bs (hosg o ho) q hq, lnL o (List.mem_cons_of_mem _ ho) q hq⟩, (hosg o ho).l2⟩
  have tF := twice_sz (gL F pF)
  -- what the cuts leave
  have shSz : ∀ os', (∀ o ∈ os', o ∈ os) → os'.length ≤ 2 → SZ (NN L) 300000 (twice (clipAll (shS os') F)) ∧ C "_law_shared" [.lst (poly F :: os'.map poly)] = sh (fr (twice (clipAll (shS os') F))) := fun os' hs hl => by
    have hB : F.length * 64 ^ os'.length ≤ 300000 := by
      have : 64 ^ os'.length ≤ 64 ^ 2 := Nat.pow_le_pow_right (by omega) hl
      have := Nat.mul_le_mul hFl this
      omega
    have key : ∀ (os' : List (List Pt)) (P : List Pt), (∀ o ∈ os', o ∈ os) → Poly L P → P.length * 64 ^ os'.length ≤ 300000 → Poly L (clipAll (shS os') P) ∧ (clipAll (shS os') P).length ≤ 300000 := by
      intro os'
      induction os' with
      | nil => intro P _ hP hl; exact ⟨hP, by simpa [shS, clipAll] using hl⟩
      | cons o r ih =>
        intro P hs hP hl
        obtain ⟨G, ho⟩ := hgc o (hs o (by simp))
        have info := cyc_inv o (fun P q => clip q.1 q.2 P) P (fun k R => Poly L R ∧ R.length ≤ P.length * 2 ^ k) ⟨hP, by omega⟩ (fun k q R hq hI => ⟨G.cl q hq R hI.1, by
          have := clip_len (s := q.1) (e := q.2) R
          rw [Nat.pow_succ, ← Nat.mul_assoc]
          omega⟩)
        rw [← clipAll_fold] at info
        simp only [shS, clipAll_app]
        refine ih _ (fun o' h' => hs o' (List.mem_cons_of_mem _ h')) info.1 ?_
        have l64 : P.length * 2 ^ o.length ≤ P.length * 64 := Nat.mul_le_mul_left _ (by
          have : 2 ^ o.length ≤ 2 ^ 6 := Nat.pow_le_pow_right (by omega) ho
          omega)
        have e64 : P.length * 64 ^ (r.length + 1) = P.length * 64 * 64 ^ r.length := by rw [Nat.pow_succ, Nat.mul_assoc, Nat.mul_comm (64 ^ r.length) 64]
        simp only [List.length_cons] at hl
        have := Nat.mul_le_mul_right (64 ^ r.length) (Nat.le_trans info.2 l64)
        omega
    obtain ⟨k1, k2⟩ := key os' F hs pF hB
    exact ⟨(twice_sz (gL _ k1)).mono k2, sp.shared (NN L) (Poly L) F os' nL gL (fun o ho => hgc o (hs o ho)) pF hB (by omega)⟩
  -- the due amount
  have d1sz : SZ (NN L) 700000 (d1Of F os) := by
    have key : ∀ (os' : List (List Pt)) (x : Rat) (k : Nat), (∀ o ∈ os', o ∈ os) → SZ (NN L) k x → SZ (NN L) (k + 300000 * os'.length) (os'.foldl (fun d o => d - twice (clipAll (shS [o]) F)) x) := by
      intro os'
      induction os' with
      | nil => intro x k _ hx; exact hx
      | cons o r ih =>
        intro x k hs hx
        have h1 := (shSz [o] (fun o' h' => by simp at h'; rw [h']; exact hs o (by simp)) (by simp)).1
        have := ih (x - twice (clipAll (shS [o]) F)) (k + 300000) (fun o' h' => hs o' (List.mem_cons_of_mem _ h')) (hx.sub h1)
        rw [List.length_cons, show k + 300000 * (r.length + 1) = k + 300000 + 300000 * r.length by omega]
        exact this
    exact (key os (twice F) F.length (fun _ h => h) tF).mono (by omega)
  -- the program's amounts
  have Gself : Good (NN L) (CpL L (sidesOf F)) (sidesOf F) 1 := good1 okL fun q hq => ⟨gp_bs hF q hq, lnL F (by simp) q hq⟩
  have Goth : ∀ o ∈ os, Good (NN L) (CpL L (sidesOf F)) (sidesOf o) 2 := fun o ho => good2 okL fun q hq => ⟨gp_bs (hosg o ho) q hq, lnL o (List.mem_cons_of_mem _ ho) q hq⟩
  have cpF : CpL L (sidesOf F) F := ⟨pF, hF.ins⟩
  have cpg : ∀ P, CpL L (sidesOf F) P → ∀ x ∈ P, Gr (NN L) x := fun P hP => gL P hP.1
  have okS : ∀ o ∈ os, Ok (sidesOf o) := fun o ho => (hosg o ho).ok
  have wo1 : C "without" [poly F, .lst (os.map poly)] = sh (fr (dueOf F os)) := by
    have fit : Fit (NN L) (CpL L (sidesOf F)) os 6 1 := by
      match os, hosl, hosg, Goth with
      | [], _, _, _ => exact ⟨by omega, by omega⟩
      | [x], _, hg, G => exact ⟨2, G x (by simp), (hg x (by simp)).l2, by omega, by omega, by omega, by omega⟩
      | [x, y], _, hg, G => exact ⟨2, G x (by simp), (hg x (by simp)).l2, by omega, by omega, 2, G y (by simp), (hg y (by simp)).l2, by omega, by omega, by omega, by omega⟩
      | _ :: _ :: _ :: _, h, _, _ => simp at h
    rw [sp.without (NN L) (CpL L (sidesOf F)) F os 6 nL cpg cpF (by omega) hFl fit]
    rw [due_eq hosl okS]
  have wo2 : C "without" [poly F, .lst ((os ++ [F]).map poly)] = sh (fr 0) := by
    have fit : Fit (NN L) (CpL L (sidesOf F)) (os ++ [F]) 6 1 := by
      match os, hosl, hosg, Goth with
      | [], _, _, _ => exact ⟨1, Gself, hFl, by omega, by omega, by omega, by omega⟩
      | [x], _, hg, G => exact ⟨2, G x (by simp), (hg x (by simp)).l2, by omega, by omega, 1, Gself, hFl, by omega, by omega, by omega, by omega⟩
      | [x, y], _, hg, G => exact ⟨2, G x (by simp), (hg x (by simp)).l2, by omega, by omega, 2, G y (by simp), (hg y (by simp)).l2, by omega, by omega, 1, Gself, hFl, by omega, by omega, by omega, by omega⟩
      | _ :: _ :: _ :: _, h, _, _ => simp at h
    rw [sp.without (NN L) (CpL L (sidesOf F)) F (os ++ [F]) 6 nL cpg cpF (by simp; omega) hFl fit]
    rw [List.map_append, show [F].map sidesOf = [sidesOf F] from rfl, cut_self hF.ok hF.ins]
  have eP : ∀ P : List Pt, bltV "list" [poly P] = some (poly P, true) := fun P => list_lst
  have ePm : ∀ P : List Pt, bltV "list" [PV.lst (P.map pt)] = some (poly P, true) := fun P => list_lst
  unfold mm_law
  refine jn_at (F.map pt, os.map poly, rl 4 fun i => .int (f i)) (fun j => ?_) ?_
  · rw [epts]
    have c1 : cl2 (some (poly pts, true)) = some (poly pts, true) := cl2_own
    rw [c1]
    simp only [ob_some, List.append_nil]
    rw [eright]
    simp only [cl1_sh, sh_bind, truth_bl, om_some, ob_some, Bool.not_true, Bool.false_eq_true, if_false]
    rw [show (PV.int 0) = PV.int ((0 : Nat) : Int) from rfl, e0, show (PV.int 3) = PV.int ((3 : Nat) : Int) from rfl, e3, show (PV.int 4) = PV.int ((4 : Nat) : Int) from rfl, e4]
    simp only [cl1_sh, sh_bind, ob_some, List.append_nil, int_int]
    rw [eF]
    have c2 : cl2 (some (poly F, true)) = some (poly F, true) := cl2_own
    have c3' : ownO (some (poly F, true)) = some (F.map pt) := rfl
    rw [c2, c3', ob_some]
    rw [show PV.int (((3 : Nat) : Int)) = PV.int 3 from rfl, op2_mods (by omega), sh_bind, show ((c3 : Int) % 3) = ((c3 % 3 : Nat) : Int) by omega, rng1_ok (by omega), ob_some, ints0]
    rw [compM_rl (g := fun k => poly (D k)) (c3 % 3) (fun k hk => by
      obtain ⟨_, c, q1, q2⟩ := hD k
      rw [op2_add, sh_bind, show ((1 : Int) + (k : Nat)) = ((1 + k : Nat) : Int) by omega]
      simp only [ob_some, om_some, List.append_nil]
      rw [q1]
      simp only [cl1_sh, sh_bind, ob_some, List.append_nil]
      rw [q2]
      have : cl2 (some (poly (D k), true)) = some (poly (D k), true) := cl2_own
      rw [this]
      rfl)]
    simp only [ob_some, ownO_own]
    rw [show (PV.int 1000) = PV.int ((1000 : Nat) : Int) from rfl, er]
    simp only [cl2_own, ownO_own, ob_some]
    have eo : (rl (c3 % 3) fun k => poly (D k)) = os.map poly := by
      rw [← hos, List.map_map]
      rfl
    rw [eo]
  refine jn_at (.lst (rl 4 fun i => .int (f i)), pt st) (fun j => ?_) ?_
  · simp only []
    rw [r0, r1]
    simp only [sh_bind]
    rw [op2_mods (by omega), sh_bind, op2_sub, sh_bind, op2_mods (by omega), sh_bind, op2_sub, sh_bind]
    simp only [ob_some, List.append_nil]
    rw [small_frac sp.lfr (by omega), small_frac sp.lfr (by omega)]
    simp only [cl1_sh, sh_bind, ob_some, om_some]
    rw [pt_tup, ← hst]
  refine jn_at (poly F, pt en, poly (leftOf (st, en) F), poly (leftOf (en, st) F)) (fun j => ?_) ?_
  · simp only []
    rw [r2, r3]
    simp only [sh_bind, pt0, pt1]
    rw [op2_mods (by omega), sh_bind, op2_add, sh_bind, op2_mods (by omega), sh_bind, op2_sub, sh_bind]
    simp only [ob_some, om_some, sh_bind, List.append_nil]
    rw [fr_int, fr_int, sp.ladd.s _ _ (by omega), sp.ladd.s _ _ (by omega)]
    simp only [cl1_sh, sh_bind, ob_some, om_some, ePm, List.append_nil]
    rw [pt_tup, ← hen]
    rw [sp.left F st en (gp_bp hF) bst ben (by omega), sp.left F en st (gp_bp hF) ben bst (by omega)]
    rfl
  refine jn_at (fr (twice F)) (fun j => ?_) ?_
  · simp only []
    rw [sp.isleft _ st en (fun x hx => (gO x hx).bp.w) bst.w ben.w (by omega) leftOf_left (leftOf_or _ _)]
    rw [sp.isleft _ en st (fun x hx => (gT x hx).bp.w) ben.w bst.w (by omega) leftOf_left (leftOf_or _ _)]
    simp only [cl1_sh, sh_bind, truth_bl, om_some, ob_some, Bool.not_true, Bool.false_eq_true, if_false]
    rw [sp.size _ _ n1 gO (by omega), sp.size _ _ n1 gT (by omega), sp.lclip F st en (gp_bp hF) bst ben (by omega)]
    have c2 : cl2 (some (poly (clip st en F), true)) = some (poly (clip st en F), true) := cl2_own
    rw [c2]
    simp only [ob_some, List.append_nil]
    rw [sp.ltwice _ _ n1 gC (by omega), sp.ltwice _ _ n1 gF (by omega)]
    simp only [cl1_sh, sh_bind, ob_some, om_some, cmp_ne, eqD_fr, left_twice (h := (st, en)) hne, decide_true, Bool.not_true, Bool.false_eq_true, if_false, List.append_nil]
    have tb := both_sides (h := (st, en)) hne F
    have z1 := (twice_sz gO).bz n1 (by omega)
    have z2 := (twice_sz gT).bz n1 (by omega)
    have z3 := (twice_sz gF).bz n1 (by omega)
    rw [left_twice (h := (st, en)) hne] at tb z1
    simp only at tb z1
    have z4 := bz_den (twice F)
    rw [sp.ladd _ _ (by omega) (by rw [tb]; omega), tb]
    simp only [cl1_sh, sh_bind, cmp_ne, eqD_fr, om_some, ob_some, decide_true, Bool.not_true, Bool.false_eq_true, if_false]
  refine jn_at (.lst (os.map poly), fr (d1Of F os)) (fun j => ?_) ?_
  · simp only []
    rw [seqL (by simp; omega), ob_some]
    rw [forC_inv1 (s0 := fr (twice F)) poly fr (fun d o => d - twice (clipAll (shS [o]) F)) (fun r d => (∀ o ∈ r, o ∈ os) ∧ SZ (NN L) (700000 - 300000 * r.length) d ∧ r.length ≤ 2) (fun o r d h => ⟨fun kn kb => by
        obtain ⟨h1, h2, h3⟩ := h
        obtain ⟨s1, s2⟩ := shSz [o] (fun o' h' => by simp at h'; rw [h']; exact h1 o (by simp)) (by simp)
        have s2' : C "_law_shared" [.lst [poly F, poly o]] = sh (fr (twice (clipAll (shS [o]) F))) := s2
        have b1 := h2.bz nL (by omega)
        have b2 := s1.bz nL (by omega)
        have b3 := (h2.sub s1).bz nL (by omega)
        have b4 := bz_den (d - twice (clipAll (shS [o]) F))
        rw [s2']
        simp only [cl1_sh, sh_bind, ob_some, om_some, List.append_nil]
        rw [sp.lsub _ _ (by omega) (by omega)]
        simp only [cl1_sh, sh_bind], by
        obtain ⟨h1, h2, h3⟩ := h
        obtain ⟨s1, s2⟩ := shSz [o] (fun o' h' => by simp at h'; rw [h']; exact h1 o (by simp)) (by simp)
        refine ⟨fun o' h' => h1 o' (List.mem_cons_of_mem _ h'), (h2.sub s1).mono ?_, by simp at h3; omega⟩
        simp only [List.length_cons] at h3 ⊢
        omega⟩) os (twice F) ⟨fun _ h => h, tF.mono (by omega), hosl⟩ rfl]
    rfl
  refine jn_at (fr (dueOf F os)) (fun j => ?_) ?_
  · simp only []
    rw [len_lst, sh_bind, cmp_eq, eqD_int, ob_some, List.length_map]
    by_cases h2 : os.length = 2
    · rw [if_pos (decide_eq_true (by omega))]
      obtain ⟨x, y, hxy⟩ : ∃ x y, os = [x, y] := by
        match os, h2 with
        | [x, y], _ => exact ⟨x, y, rfl⟩
      obtain ⟨s1, s2⟩ := shSz os (fun _ h => h) (by omega)
      have i0' : ix (.lst (os.map poly)) (.int 0) = sh (poly x) := by rw [hxy]; exact ix_l0
      have i1' : ix (.lst (os.map poly)) (.int 1) = sh (poly y) := by rw [hxy]; exact ix_l1
      have s2' : C "_law_shared" [.lst [poly F, poly x, poly y]] = sh (fr (twice (clipAll (shS os) F))) := by rw [← s2, hxy]; rfl
      rw [i0', i1']
      simp only [sh_bind, ob_some, om_some, List.append_nil]
      rw [s2']
      have b1 := d1sz.bz nL (by omega)
      have b2 := s1.bz nL (by omega)
      have b3 := (d1sz.add s1).bz nL (by omega)
      have b4 := bz_den (d1Of F os + twice (clipAll (shS os) F))
      simp only [cl1_sh, sh_bind, ob_some, om_some, List.append_nil]
      rw [sp.ladd _ _ (by omega) (by omega)]
      simp only [cl1_sh, sh_bind]
      unfold dueOf
      rw [if_pos h2]
    · rw [if_neg (by rw [decide_eq_true_eq]; omega)]
      unfold dueOf
      rw [if_neg h2]
  simp only []
  rw [seqL (by simp; omega), ob_some]
  rw [compM_map (em := poly) (g := poly) os (fun o ho => by rw [eP]; rfl)]
  simp only [ob_some, ownO_own, eP, List.append_nil]
  rw [wo1]
  simp only [cl1_sh, sh_bind, cmp_ne, eqD_fr, om_some, ob_some, decide_true, Bool.not_true, Bool.false_eq_true, if_false]
  have eqp := eq_polys (os := os)
  rw [cmp_ne] at eqp
  rw [eqp, ob_some]
  simp only [Bool.false_eq_true, if_false]
  rw [op2_cat (by simp; omega)]
  simp only [sh_bind, ob_some, om_some]
  rw [show os.map poly ++ [poly F] = (os ++ [F]).map poly by simp, wo2]
  simp only [cl1_sh, sh_bind, cmpV_def, cmp_eq]
  rw [fr_zero, eqD_fr]
  simp
  rfl
end K66

namespace K66
open PySem L2 Pv
theorem a_common (d : Nat) : A_common (run prog (d + 1)) := fun a b h => (r_common_numbers d _ _).trans (t_common _ a b h)
theorem a_fraction (d : Nat) : A_fraction (run prog (d + 2)) := fun a b h0 h => (r_fraction (d + 1) _ _).trans (t_fraction (a_common d) a b h0 h)
theorem a_lfraction (d : Nat) : A_lfraction (run prog (d + 1)) := fun a b h0 h h2 => (r__law_fraction d _ _).trans (t_lfraction _ a b h0 h h2)
theorem a_plus (d : Nat) : A_add (run prog (d + 3)) "plus" := fun x y h => (r_plus (d + 2) _ _).trans (t_plus (a_fraction d) x y h)
theorem a_minus (d : Nat) : A_sub (run prog (d + 3)) "minus" := fun x y h => (r_minus (d + 2) _ _).trans (t_minus (a_fraction d) x y h)
theorem a_times (d : Nat) : A_mul (run prog (d + 3)) "times" := fun x y h => (r_times (d + 2) _ _).trans (t_times (a_fraction d) x y h)
theorem a_over (d : Nat) : A_div (run prog (d + 3)) "over" := fun x y h0 h => (r_over (d + 2) _ _).trans (t_over (a_fraction d) x y h0 h)
theorem a_less (d : Nat) : A_lt (run prog (d + 1)) "less" := fun x y h => (r_less d _ _).trans (t_less _ x y h)
theorem a_sign (d : Nat) : S_sign (run prog (d + 1)) := fun x => (r_sign d _).trans (s_sign _ x)
theorem a_lplus (d : Nat) : B_add (run prog (d + 2)) "_law_plus" := fun x y h h2 => (r__law_plus (d + 1) _ _).trans (t_lplus (a_lfraction d) x y h h2)
theorem a_lminus (d : Nat) : B_sub (run prog (d + 2)) "_law_minus" := fun x y h h2 => (r__law_minus (d + 1) _ _).trans (t_lminus (a_lfraction d) x y h h2)
theorem a_ltimes (d : Nat) : B_mul (run prog (d + 2)) "_law_times" := fun x y h h2 => (r__law_times (d + 1) _ _).trans (t_ltimes (a_lfraction d) x y h h2)
theorem a_lover (d : Nat) : B_div (run prog (d + 2)) "_law_over" := fun x y h0 h h2 => (r__law_over (d + 1) _ _).trans (t_lover (a_lfraction d) x y h0 h h2)
theorem a_lless (d : Nat) : A_lt (run prog (d + 1)) "_law_less" := fun x y h => (r__law_less d _ _).trans (t_lless _ x y h)
theorem a_lmid (d : Nat) : S_mid (run prog (d + 3)) := fun x y h => (r__law_middle (d + 2) _ _).trans (t_middle (a_lplus d) (a_ltimes d) x y h)
theorem a_turn (d : Nat) : S_turn (run prog (d + 4)) := fun a b c ha hb hc => (r_turn (d + 3) _ _ _).trans (t_turn (a_minus d) (a_times d) ha hb hc)
theorem a_lturn (d : Nat) : S_lturn (run prog (d + 3)) := fun a b c ha hb hc => (r__law_turn (d + 2) _ _ _).trans (t_lturn (a_lminus d) (a_ltimes d) ha hb hc)
theorem a_smaller (d : Nat) : S_smaller (run prog (d + 2)) := fun a b ha hb => (r_smaller (d + 1) _ _).trans (t_smaller (a_less d) ha hb)
theorem a_put_in (d : Nat) : S_put_in (run prog (d + 3)) := fun p row hp hr hl => (r_put_in (d + 2) _ _).trans (t_put_in (a_smaller d) hp hr hl)
theorem a_chain (d : Nat) : S_chain (run prog (d + 5)) := fun row hr hl => (r_chain (d + 4) _).trans (t_chain (a_turn d) (a_sign (d + 3)) hr hl)
theorem a_hull (d : Nat) (pts : List Pt) (hb : ∀ x ∈ pts, Bp 200 x) (hl : pts.length ≤ 500) : cl1 (run prog (d + 6) "hull" [poly pts]) = sh (poly (hull pts)) :=
  (congrArg cl1 (r_hull (d + 5) _)).trans (t_hull (a_put_in (d + 2)) (a_chain d) hb hl)
theorem a_size (d : Nat) (N : Nat) (P : List Pt) (hN : OKN N) (hP : ∀ x ∈ P, Gr N x) (hl : P.length ≤ 500000) : run prog (d + 5) "size_of" [poly P] = sh (fr (twice P)) :=
  (r_size_of (d + 4) _).trans (t_size_of (a_turn d) (a_plus (d + 1)) hN hP hl)
theorem a_ltwice (d : Nat) (N : Nat) (P : List Pt) (hN : OKN N) (hP : ∀ x ∈ P, Gr N x) (hl : P.length ≤ 500000) : run prog (d + 4) "_law_twice" [poly P] = sh (fr (twice P)) :=
  (r__law_twice (d + 3) _).trans (t_ltwice (a_lturn d) (a_lplus (d + 1)) hN hP hl)
theorem a_crossing (d : Nat) : S_crossing (run prog (d + 4)) := fun a b p q ha hb hp hq hne => (r_crossing (d + 3) _ _ _ _).trans (t_crossing (a_minus d) (a_over d) (a_times d) (a_plus d) ha hb hp hq hne)
theorem a_left (d : Nat) : S_left (run prog (d + 5)) := fun P s e hP hs he hl => (congrArg cl1 (r_left_of (d + 4) _ _ _)).trans (t_left_of (a_turn d) (a_sign (d + 3)) (a_crossing d) hP hs he hl)
theorem a_sides (d : Nat) : S_sides (run prog (d + 1)) := fun P h => (r_sides_of d _).trans (t_sides h)
theorem a_cut (d : Nat) (N : Nat) (Cp : List Pt → Prop) : S_cut (run prog (d + 7)) N Cp := fun P o g G hP hB ho =>
  (r_cut_out (d + 6) _ _).trans (t_cut_out (a_sides (d + 5)) (a_left (d + 1)) ((r_common_polygons (d + 5) _ _).trans (t_common_p (a_sides (d + 4)) (a_left d) G hP hB (by omega))) G hP hB ho)
theorem a_lclip (d : Nat) : S_lclip (run prog (d + 4)) := fun P s e hP hs he hl => (r__law_clip (d + 3) _ _ _).trans (t_lclip (a_lturn d) (a_lminus (d + 1)) (a_lover (d + 1)) (a_ltimes (d + 1)) (a_lplus (d + 1)) hP hs he hl)
theorem a_side (d : Nat) : S_side (run prog (d + 4)) := fun pts a b hb ha hb' hn => (r__law_is_side (d + 3) _ _ _).trans (t_side (a_lturn d) (a_lless (d + 2)) hb ha hb' hn)
theorem a_least (d : Nat) : S_least (run prog (d + 2)) := fun p r hb hn => (r__law_least (d + 1) _).trans (t_least (a_lless d) hb hn)
theorem a_other (d : Nat) : S_other (run prog (d + 1)) := fun p r hn => (r__law_other d _).trans (t_other hn)
theorem a_lhull (d : Nat) : S_lhull (run prog (d + 5)) := fun pts hne hb hn => by
  cases pts with
  | nil => exact absurd rfl hne
  | cons p r => exact (r__law_hull (d + 4) _).trans (t_lhull (a_lturn (d + 1)) (a_side d) (a_least (d + 2)) (a_other (d + 3)) rfl hb hn)
theorem okn36 : OKN 36 := ⟨by omega, Nat.lt_of_lt_of_le (show 36 * 36 < 2 ^ 11 by omega) (Nat.pow_le_pow_right (by omega) (by omega))⟩
theorem a_row (d : Nat) : S_row (run prog (d + 1)) := fun cell size base h1 h2 h3 => by
  obtain ⟨f, h, e⟩ := s_lrow (run prog d) cell size base h1 h2 h3
  exact ⟨f, h, (r__law_row d _ _ _).trans e⟩
theorem a_cell (d : Nat) (ns : List Int) : S_cell (run prog (d + 1)) (.lst (ns.map .int)) := fun k => ⟨_, (r__law_cell d _ _).trans (s_lcellk _ ns k)⟩
theorem sp (ns : List Int) : Sp (run prog 19) (.lst (ns.map .int)) where
  cell := a_cell 18 ns
  row := a_row 18
  lfr := a_lfraction 18
  points := by
    obtain ⟨pts, h1, h2, h3⟩ := t_points (a_cell 17 ns) (a_row 17) (a_lfraction 17) (a_lmid 15)
    exact ⟨pts, h1, h2, (r__law_points 18 _).trans h3⟩
  right := fun pts hp hn => (r__law_right_hull 18 _).trans (t_right (a_hull 12) (a_lhull 13) (fun P hP hl => a_size 13 36 P okn36 hP (by omega)) (fun P hP hl => (r__law_shoelace 17 _).trans (t_shoelace (a_ltimes 15) (a_lminus 15) (a_lplus 15) okn36 hP (by omega))) hp hn)
  drawn := fun c => by
    obtain ⟨P, h1, h2⟩ := t_drawn (a_row 17) (a_lfraction 17) (a_lhull 13) c
    exact ⟨P, h1, (r__law_drawn 18 _).trans h2⟩
  ladd := a_lplus 17
  lsub := a_lminus 17
  left := a_left 14
  isleft := fun R s e hR hs he hl h1 h2 => (r__law_is_left 18 _ _ _).trans (t_isleft (a_lturn 15) hR hs he hl h1 h2)
  size := fun N P hN hP hl => a_size 14 N P hN hP hl
  ltwice := fun N P hN hP hl => a_ltwice 15 N P hN hP hl
  lclip := a_lclip 15
  shared := fun N Cp P os hN hgr hos hP hB hn => (r__law_shared 18 _).trans (t_shared (a_lclip 14) (fun Q hQ hl => a_ltwice 14 N Q hN (hgr Q hQ) (by omega)) hos hP hB hn)
  without := fun N Cp P os B hN hgr hP ho hB hF => (r_without 18 _ _).trans (t_without (a_cut 11 N Cp) (fun Q hQ hl => a_size 13 N Q hN (hgr Q hQ) (by omega)) (a_plus 15) hN hgr hP ho hB hF)
theorem law_true : ∀ ns : List Int, ns.length ≤ 63 → run prog 20 "law" [.lst (ns.map .int)] = some (.bl true, false) := fun ns _ => (r_law 19 _).trans (law_ok (sp ns))
end K66


open PySem PySem.W PyProof.Rows
set_option maxRecDepth 100000 in
set_option maxHeartbeats 0 in
theorem PySem.Challenge.cw_trueshop_k66_polygons_without_others_holds : PySem.Challenge.rw_trueshop_k66_polygons_without_others.Holds := by
  w_on; o_law; k_head; (case hw => w_witness2)
  k_fill
  refine K66.walk (l := PySem.Challenge.rw_trueshop_k66_polygons_without_others) K66.law_true rfl rfl (by kernel_rfl) (fun w h Y => PySem.W.kIn_of Y) ?F
  case F =>
    intro w mg fa h KX G hmg
    refine' ⟨K66.fin hmg (K66.pg_ok (w := w) KX G ?a0 ?l0 ?c0 ?k0 ?a1 ?l1 ?c1 ?k1 ?t1 ?u1 ?a2 ?l2 ?c2 ?k2 ?a3 ?l3 ?c3 ?k3 ?a4 ?l4 ?c4 ?k4 ?a5 ?l5 ?c5 ?k5 ?a6 ?l6 ?c6 ?k6 ?a7 ?l7 ?c7 ?k7 ?a8 ?l8 ?c8 ?k8 ?a9 ?l9 ?c9 ?k9 ?a10 ?l10 ?c10 ?k10 ?a11 ?l11 ?c11 ?k11 ?a12 ?l12 ?c12 ?k12 ?a13 ?l13 ?c13 ?k13 ?a14 ?l14 ?c14 ?k14 ?a15 ?l15 ?c15 ?k15 ?a16 ?l16 ?c16 ?k16 ?a17 ?l17 ?c17 ?k17 ?a18 ?l18 ?c18 ?k18 ?a19 ?l19 ?c19 ?k19 ?a20 ?l20 ?c20 ?k20 ?a21 ?l21 ?c21 ?k21 ?a22 ?l22 ?c22 ?k22 ?a23 ?l23 ?c23 ?k23 ?a24 ?l24 ?c24 ?k24 ?a25 ?l25 ?c25 ?k25 ?a26 ?l26 ?c26 ?k26 ?a27 ?l27 ?c27 ?k27 ?a28 ?l28 ?c28 ?k28 ?a29 ?l29 ?c29 ?k29 ?a30 ?l30 ?c30 ?k30 ?a31 ?l31 ?c31 ?k31 ?a32 ?l32 ?c32 ?k32 ?a33 ?l33 ?c33 ?k33 ?a34 ?l34 ?c34 ?k34 ?a35 ?l35 ?c35 ?k35 ?a36 ?l36 ?c36 ?k36 ?a37 ?l37 ?c37 ?k37 ?a38 ?l38 ?c38 ?k38 ?a39 ?l39 ?c39 ?k39 ?a40 ?l40 ?c40 ?k40 ?a41 ?l41 ?c41 ?k41 ?a42 ?l42 ?c42 ?k42 ?b_abs ?b_all ?b_any ?b_bool ?b_int ?b_isinstance ?b_len ?b_list ?b_range ?b_str ?b_tuple), PySem.W.mg_none_of KX G ?y_all, PySem.W.mg_none_of KX G ?y_any, _, K66.tabs_ok ⟩
    (case y_all => k_is)
    (case y_any => k_is)
    (case a0 => k_is)
    (case l0 => k_is)
    (case c0 => k_is)
    (case k0 => k_is)
    (case a1 => k_is)
    (case l1 => k_is)
    (case c1 => k_is)
    (case k1 => k_is)
    (case t1 => k_is)
    (case u1 => rfl)
    (case a2 => k_is)
    (case l2 => k_is)
    (case c2 => k_is)
    (case k2 => k_is)
    (case a3 => k_is)
    (case l3 => k_is)
    (case c3 => k_is)
    (case k3 => k_is)
    (case a4 => k_is)
    (case l4 => k_is)
    (case c4 => k_is)
    (case k4 => k_is)
    (case a5 => k_is)
    (case l5 => k_is)
    (case c5 => k_is)
    (case k5 => k_is)
    (case a6 => k_is)
    (case l6 => k_is)
    (case c6 => k_is)
    (case k6 => k_is)
    (case a7 => k_is)
    (case l7 => k_is)
    (case c7 => k_is)
    (case k7 => k_is)
    (case a8 => k_is)
    (case l8 => k_is)
    (case c8 => k_is)
    (case k8 => k_is)
    (case a9 => k_is)
    (case l9 => k_is)
    (case c9 => k_is)
    (case k9 => k_is)
    (case a10 => k_is)
    (case l10 => k_is)
    (case c10 => k_is)
    (case k10 => k_is)
    (case a11 => k_is)
    (case l11 => k_is)
    (case c11 => k_is)
    (case k11 => k_is)
    (case a12 => k_is)
    (case l12 => k_is)
    (case c12 => k_is)
    (case k12 => k_is)
    (case a13 => k_is)
    (case l13 => k_is)
    (case c13 => k_is)
    (case k13 => k_is)
    (case a14 => k_is)
    (case l14 => k_is)
    (case c14 => k_is)
    (case k14 => k_is)
    (case a15 => k_is)
    (case l15 => k_is)
    (case c15 => k_is)
    (case k15 => k_is)
    (case a16 => k_is)
    (case l16 => k_is)
    (case c16 => k_is)
    (case k16 => k_is)
    (case a17 => k_is)
    (case l17 => k_is)
    (case c17 => k_is)
    (case k17 => k_is)
    (case a18 => k_is)
    (case l18 => k_is)
    (case c18 => k_is)
    (case k18 => k_is)
    (case a19 => k_is)
    (case l19 => k_is)
    (case c19 => k_is)
    (case k19 => k_is)
    (case a20 => k_is)
    (case l20 => k_is)
    (case c20 => k_is)
    (case k20 => k_is)
    (case a21 => k_is)
    (case l21 => k_is)
    (case c21 => k_is)
    (case k21 => k_is)
    (case a22 => k_is)
    (case l22 => k_is)
    (case c22 => k_is)
    (case k22 => k_is)
    (case a23 => k_is)
    (case l23 => k_is)
    (case c23 => k_is)
    (case k23 => k_is)
    (case a24 => k_is)
    (case l24 => k_is)
    (case c24 => k_is)
    (case k24 => k_is)
    (case a25 => k_is)
    (case l25 => k_is)
    (case c25 => k_is)
    (case k25 => k_is)
    (case a26 => k_is)
    (case l26 => k_is)
    (case c26 => k_is)
    (case k26 => k_is)
    (case a27 => k_is)
    (case l27 => k_is)
    (case c27 => k_is)
    (case k27 => k_is)
    (case a28 => k_is)
    (case l28 => k_is)
    (case c28 => k_is)
    (case k28 => k_is)
    (case a29 => k_is)
    (case l29 => k_is)
    (case c29 => k_is)
    (case k29 => k_is)
    (case a30 => k_is)
    (case l30 => k_is)
    (case c30 => k_is)
    (case k30 => k_is)
    (case a31 => k_is)
    (case l31 => k_is)
    (case c31 => k_is)
    (case k31 => k_is)
    (case a32 => k_is)
    (case l32 => k_is)
    (case c32 => k_is)
    (case k32 => k_is)
    (case a33 => k_is)
    (case l33 => k_is)
    (case c33 => k_is)
    (case k33 => k_is)
    (case a34 => k_is)
    (case l34 => k_is)
    (case c34 => k_is)
    (case k34 => k_is)
    (case a35 => k_is)
    (case l35 => k_is)
    (case c35 => k_is)
    (case k35 => k_is)
    (case a36 => k_is)
    (case l36 => k_is)
    (case c36 => k_is)
    (case k36 => k_is)
    (case a37 => k_is)
    (case l37 => k_is)
    (case c37 => k_is)
    (case k37 => k_is)
    (case a38 => k_is)
    (case l38 => k_is)
    (case c38 => k_is)
    (case k38 => k_is)
    (case a39 => k_is)
    (case l39 => k_is)
    (case c39 => k_is)
    (case k39 => k_is)
    (case a40 => k_is)
    (case l40 => k_is)
    (case c40 => k_is)
    (case k40 => k_is)
    (case a41 => k_is)
    (case l41 => k_is)
    (case c41 => k_is)
    (case k41 => k_is)
    (case a42 => k_is)
    (case l42 => k_is)
    (case c42 => k_is)
    (case k42 => k_is)
    (case b_abs => k_is)
    (case b_all => k_is)
    (case b_any => k_is)
    (case b_bool => k_is)
    (case b_int => k_is)
    (case b_isinstance => k_is)
    (case b_len => k_is)
    (case b_list => k_is)
    (case b_range => k_is)
    (case b_str => k_is)
    (case b_tuple => k_is)

