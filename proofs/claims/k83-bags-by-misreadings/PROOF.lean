import PyProof.Rows.All
import PySem.Challenge.RW_whoseitis_k83_bags_by_misreadings
import HandS.GenOver
import HandS.AnyAll
import HandS.ForMost
import PyProof.GenRules
import PyProof.GenQ
import PyProof.CollectWalk
import PyProof.TupleOfGen
import PyProof.WalkInts
import HandS.TupMul
import HandS.Wide
import HandS.TupAny
import HandS.Deep
import HandS.Flow
import HandS.Style
import HandS.Walk
import HandS.Zip
import HandS.IsInst
import HandS.More
import HandS.SortInts
import KE.GoesEnum
import KE.GoesMore
import HandS.Conv
import HandS.Rev
import PyProof.Rows.ChunkEnd
import HandS.EndTab
set_option Elab.async false
set_option linter.all false
set_option maxRecDepth 100000
set_option maxHeartbeats 2000000
/-! Y1: generator expressions whose elements may do anything that a def may do: the frame, the run from one item to the next. -/
namespace GX
open PySem PySem.Spec PyProof.Rows L2 GenW

/-- the frame's environment -/
abbrev gEnv (scope : Scope) (cl : List (Str × Addr)) (C : Addr) (code : Value) (X : Cx) : Env := newEnv scope C X.env.globals cl (X.env.qual ++ "<genexpr>.") none code none builtinsNs
/-- the context of a generator's frame that was made at s, woken under A -/
abbrev gcx (X : Cx) (A : Around) (s : Shared) (H : Hp) (scope : Scope) (cenv : Env) (fp : List Addr) : Cx :=
  { X with A := A.deeper cenv, s_0 := s, H_0 := H, env := cenv, outer := X.stack, stack := cenv :: X.stack, ex := fp, fn := fun x => scope.names.lookup x == some .cell, pn := [], calm := true, xe := fun _ _ => False }

section
variable {X : Cx} {pins : List (Addr × Obj)} {σ : L2.St} {H : Hp} {s : Shared}
theorem gen_start {A : Around} {scope : Scope} {own : List (Str × Nat)} {fp : List Addr} {code : Value} {h' : Heap} {tk : Nat} {it : Value} {cenv : Env} (I : Inv X pins σ H s) (hA : A.handled = none) (hAf : A.frames = some X.stack) (ok : BlkOk X.N X.env.scope scope own) (hN : X.N.Nodup) (h0 : (".0" : Str) ∉ X.N) (hfp : ∀ b ∈ fp, FpOk X pins H b ∧ b < s.heap.objs.size)
    (hcenv : cenv = gEnv scope (cellsFrom (s.heap.objs.size + 1) scope.names (cloFrom X.env.cells scope.names [])) s.heap.objs.size code X)
    (hns : h'.Ns s.heap.objs.size (fun y => if y = (".0" : Str) then some it else none)) (hsb : Heap.SameBut s.heap.objs.size (pushCells (s.heap.push { cls := .type "frame", data := .dict #[] }) scope.names) h') :
    Inv (gcx X A s H scope cenv fp) [] (wipe σ (own.map (·.2))) H { s with heap := h', toks := tk } := by
  have hfree : ∀ y ∈ scope.names, y.2 = .free → ∃ c, X.env.cells.lookup y.1 = some c := fun y hy e => by
    rcases ok.free y hy e with k | k
    · exact I.ok.has _ (.inl k)
    · exact I.ok.has _ (.inr k)
  have kp0 : ∀ b o, s.heap.get? b = some o → (pushCells (s.heap.push { cls := .type "frame", data := .dict #[] }) scope.names).get? b = some o := fun b o e => pushCells_keeps _ _ _ _ (Heap.get?_push_of_some _ e)
  have kp : ∀ b o, s.heap.get? b = some o → h'.get? b = some o := fun b o e => hsb.extBut b o (Nat.ne_of_lt (Heap.lt_size e)) (kp0 b o e)
  have hL : cenv.locals = s.heap.objs.size := by rw [hcenv]; rfl
  have hcl : cenv.cells = cellsFrom (s.heap.objs.size + 1) scope.names (cloFrom X.env.cells scope.names []) := by rw [hcenv]; rfl
  have hsc : cenv.scope = scope := by rw [hcenv]; rfl
  rw [← Heap.size_push s.heap { cls := .type "frame", data := .dict #[] }] at hcl
  have cm : ∀ {y c}, (y, c) ∈ cloFrom X.env.cells scope.names [] → X.env.cells.lookup y = some c ∧ c < s.heap.objs.size := fun {y c} hm => by
    rcases cloFrom_mem hm with hm | ⟨h1, rfl⟩
    · cases hm
    · obtain ⟨c, hc⟩ := hfree _ h1 rfl
      rw [hc]
      obtain ⟨w, z⟩ := I.cell _ _ hc
      exact ⟨rfl, z.lt⟩
  have mem : ∀ {y c}, cenv.cells.lookup y = some c → (X.env.cells.lookup y = some c ∧ c < s.heap.objs.size) ∨ (s.heap.objs.size + 1 ≤ c ∧ CellAt h' c none) := fun {y c} e => by
    rw [hcl] at e
    rcases cells_mem (PySem.mem_of_lookup e) with hm | ⟨_, h2, h3⟩
    · exact .inl (cm hm)
    · rw [Heap.size_push] at h2
      exact .inr ⟨h2, h3.sameBut hsb (Nat.ne_of_gt (Nat.lt_of_succ_le h2))⟩
  have look : ∀ {y}, scope.names.lookup y = some .free → ∃ c, cenv.cells.lookup y = some c ∧ X.env.cells.lookup y = some c := fun {y} hl => by
    have hy : (y, NameKind.free) ∈ scope.names := PySem.mem_of_lookup hl
    obtain ⟨c', e'⟩ := mem_lookup (cells_acc (names := scope.names) (n := (s.heap.push { cls := .type "frame", data := .dict #[] }).objs.size) (cloFrom_has (cells := X.env.cells) (acc := []) hy))
    rw [← hcl] at e'
    refine ⟨c', e', ?_⟩
    rw [hcl] at e'
    rcases cells_mem (PySem.mem_of_lookup e') with hm | ⟨h1, _, _⟩
    · exact (cm hm).1
    · have := ok.uniq _ h1
      rw [hl] at this; cases this
  have okB : (gcx X A s H scope cenv fp).Ok := by
    refine ⟨I.ok.mod, by show cenv.scope.kind = _; rw [hsc]; exact ok.kind, by show cenv.globals = _; rw [hcenv]; exact I.ok.glob, by show cenv.builtins = _; rw [hcenv]; rfl, by show s.heap.objs.size ≤ cenv.locals; rw [hL]; exact Nat.le_refl _,
      fun y z c e1 e2 => ?_, fun y hy => ?_, fun y c z e => ?_, fun _ => hA, Around.frames_deeper hAf, .inr ⟨rfl, by rw [hcenv]; rfl⟩, fun b hb => ⟨?_, fun y c e z => ?_⟩, I.bs, Nat.le_trans I.ok.bsz I.sz, fun b o e hb => ?_, fun b hb z => ?_, I.stack, I.stkFree⟩
    · have e1 : cenv.cells.lookup y = some c := e1
      have e2 : cenv.cells.lookup z = some c := e2
      rw [hcl] at e1 e2
      refine cells_inj (fun p hp => ?_) (fun y z c a b => I.ok.inj y z c (cm a).1 (cm b).1) (PySem.mem_of_lookup e1) (PySem.mem_of_lookup e2)
      rw [Heap.size_push]
      exact Nat.lt_succ_of_lt (cm (y := p.1) (c := p.2) hp).2
    · show ∃ c, cenv.cells.lookup y = some c
      have hy : scope.names.lookup y = some .cell ∨ scope.names.lookup y = some .free := by
        rw [← hsc]; exact hy
      rcases hy with e | e
      · obtain ⟨c, hm⟩ := cells_has (n := (s.heap.push { cls := .type "frame", data := .dict #[] }).objs.size) (acc := cloFrom X.env.cells scope.names []) (PySem.mem_of_lookup e)
        obtain ⟨c', e'⟩ := mem_lookup hm
        exact ⟨c', by rw [hcl]; exact e'⟩
      · obtain ⟨c, h1, _⟩ := look e
        exact ⟨c, h1⟩
    · have z : (scope.names.lookup y == some NameKind.cell) = true := z
      have z : scope.names.lookup y = some .cell := by simpa using z
      have e : cenv.cells.lookup y = some c := e
      rw [hcl] at e
      rcases cells_mem (PySem.mem_of_lookup e) with hm | ⟨_, h2, _⟩
      · rcases cloFrom_mem hm with hm | ⟨h1, _⟩
        · cases hm
        · have q := ok.uniq _ h1
          rw [z] at q; cases q
      · rw [Heap.size_push] at h2
        exact Nat.le_of_succ_le h2
    · show b ≠ cenv.locals
      rw [hL]; exact Nat.ne_of_lt (hfp b hb).2
    · have e : cenv.cells.lookup y = some c := e
      rcases mem e with ⟨h1, _⟩ | ⟨h1, _⟩
      · exact (hfp b hb).1.2.2.2.2.1 y c h1 z
      · have h2 : s.heap.objs.size + 1 ≤ b := by rw [← z]; exact h1
        exact absurd (Nat.lt_of_lt_of_le (hfp b hb).2 (Nat.le_of_succ_le h2)) (Nat.lt_irrefl _)
    · rcases (hfp b hb).1.2.2.2.1 with z | z
      · exact I.ok.noex b o e z
      · exact absurd (Nat.lt_of_lt_of_le (Heap.lt_size e) (Nat.le_trans I.ok.bsz z)) (Nat.lt_irrefl _)
    · rcases List.mem_cons.mp (I.stkSub b z) with z | z
      · exact (hfp b hb).1.2.1 z
      · exact (hfp b hb).1.2.2.1 z
  refine ⟨okB, rfl, I.bare, Un.kept kp, ⟨fun y => if y = (".0" : Str) then some it else none, ?_, fun i y av e1 e2 e3 => ?_⟩, fun y c e => ?_, ?_, fun y c e => ?_, fun p hp => ?_, I.hok.kept kp, by rw [wipe_length]; exact I.len⟩
  · show Heap.Ns _ cenv.locals _
    rw [hL]
    exact hns
  · obtain ⟨e2, hne⟩ := wipe_some e2
    have hfr : scope.names.lookup y = some .free := by
      have key : ∀ k, scope.names.lookup y = some k → k = .local ∨ k = .cell ∨ k = .free → scope.names.lookup y = some .free := fun k hk hk' => by
        have no : ¬ (k = .local ∨ k = .cell) := fun hh => by
          rcases ok.own _ (PySem.mem_of_lookup hk) hh with e' | e'
          · obtain ⟨p, hp, hpy⟩ := List.mem_map.mp e'
            have e3 := ok.ix p hp
            have : p.1 = y := hpy
            rw [this] at e3
            exact hne (List.mem_map.mpr ⟨p, hp, nodup_ix hN e3 e1⟩)
          · exact e' (List.mem_of_getElem? e1)
        rcases hk' with rfl | rfl | rfl
        · exact absurd (.inl rfl) no
        · exact absurd (.inr rfl) no
        · exact hk
      have e3 : Vis scope y := by rw [← hsc]; exact e3
      rcases e3 with e3 | e3 | e3
      · exact key _ e3 (.inl rfl)
      · exact key _ e3 (.inr (.inl rfl))
      · exact key _ e3 (.inr (.inr rfl))
    obtain ⟨m, hn, hl⟩ := I.loc
    have hvis : Vis X.env.scope y := (ok.free _ (PySem.mem_of_lookup hfr) rfl).elim (fun k => .inr (.inl k)) (fun k => .inr (.inr k))
    obtain ⟨w, r, q⟩ := hl i y av e1 e2 hvis
    refine ⟨w, r, .inr ⟨.inr (by show cenv.scope.names.lookup y = _; rw [hsc]; exact hfr), ?_⟩⟩
    obtain ⟨c, h1, h2⟩ := look hfr
    rcases q with ⟨k, _⟩ | ⟨_, c', e', z⟩
    · have k : X.env.scope.names.lookup y = some .local := k
      rcases ok.free _ (PySem.mem_of_lookup hfr) rfl with k' | k' <;> rw [show X.env.scope.names.lookup y = _ from k'] at k <;> cases k
    · rw [h2] at e'; cases e'
      exact ⟨c, h1, z.keeps kp⟩
  · have e : cenv.cells.lookup y = some c := e
    rcases mem e with ⟨h1, _⟩ | ⟨_, z⟩
    · obtain ⟨w, z⟩ := I.cell y c h1
      exact ⟨w, z.keeps kp⟩
    · exact ⟨_, z⟩
  · show H cenv.locals = none
    rw [hL]; exact I.hok.fresh (Nat.le_refl _)
  · have e : cenv.cells.lookup y = some c := e
    rcases mem e with ⟨h1, _⟩ | ⟨h1, _⟩
    · exact I.freeC y c h1
    · exact I.hok.fresh (Nat.le_of_succ_le h1)
  · exact absurd (show p ∈ ([] : List (Addr × Obj)) ++ [] from hp) (by simp)
end
end GX

set_option maxHeartbeats 2000000
/-! Y2: the run of a generator expression from item to item. -/
namespace GX
open PySem PySem.Spec PyProof.Rows L2 GenW
open Sem (wp)

/-- while the generator sleeps its consumer may change its own objects Ss -/
structure Slp (Ss : List Addr) (s s' : Shared) : Prop where
  os : s'.os = s.os
  bare : AllBare s'.gens
  keep : ∀ b o, b ∉ Ss → s.heap.get? b = some o → s'.heap.get? b = some o
  own : ∀ b ∈ Ss, ∃ o, s'.heap.get? b = some o ∧ ∀ v, o.data ≠ .cell v
/-- an object of the consumer's, seen from X -/
structure Apt (X : Cx) (pins : List (Addr × Obj)) (b : Addr) : Prop where
  young : X.s_0.heap.objs.size ≤ b
  loc : b ≠ X.env.locals
  fs : b ∉ X.fs
  cell : ∀ x c, X.env.cells.lookup x = some c → c ≠ b
  pin : ∀ p ∈ X.pn ++ pins, p.1 ≠ b
theorem Apt.fp {X : Cx} {pins : List (Addr × Obj)} {b : Addr} {H : Hp} (x : Apt X pins b) (h : H b = none) : FpOk X pins H b := ⟨h, x.loc, x.fs, .inr x.young, x.cell, x.pin⟩
theorem woken {X : Cx} {pins : List (Addr × Obj)} {σ : L2.St} {H : Hp} {s s' : Shared} {Ss : List Addr} (I : Inv X pins σ H s) (hn : ∀ b ∈ Ss, H b = none) (hS : ∀ b ∈ Ss, Apt X pins b) (z : Slp Ss s s') : Inv X pins σ H s' := by
  obtain ⟨z1, z2, z3, z4⟩ := z
  obtain ⟨hh, g, d, t, o⟩ := s'
  have ho : o = s.os := z1
  subst ho
  have nt : ∀ b u, H b = some u → b ∉ Ss := fun b u q hb => by rw [hn b hb] at q; cases q
  refine I.step (g' := g) (t' := t) (d' := d) (ch := Ss) (fun b hb => ⟨.inr (hS b hb).young, (hS b hb).loc, (hS b hb).cell, (hS b hb).pin⟩)
      (fun b ob _ _ hc q _ => z3 b ob hc q) (fun b ob _ _ hc q _ => ⟨ob.slots, z3 b ob hc q⟩) (fun _ _ _ _ n => n) (fun b ob hc q => ⟨ob, z3 b ob hc q⟩)
      (fun _ _ q => q) (fun _ _ _ q => q) (fun b ps q => ⟨#[], by rw [q]; simp⟩) (fun m hm => ?_) (fun b u q => ?_) z2
  · obtain ⟨ob, es, ep, ho, r⟩ := hm
    exact ⟨ob, es, ep, z3 _ ob (fun hb => (hS _ hb).loc rfl) ho, r⟩
  · refine (I.hok b u q).stay (fun c v hc y => z3 c v ?_ y) (fun _ y => y) fun _ _ y => y
    rcases hc with y | y
    · rw [y]; exact nt b u q
    · exact nt c _ y
/-- the table of generators alone has changed -/
theorem inv_gens {X : Cx} {pins : List (Addr × Obj)} {σ : L2.St} {H : Hp} {s : Shared} {g : Array GenState} (I : Inv X pins σ H s) (hg : AllBare g) : Inv X pins σ H { s with gens := g } :=
  I.call' (ch := []) rfl Un.refl I.hok hg fun b z => by simp at z

section
variable (X : Cx) (pins : List (Addr × Obj)) (σ : L2.St) (Ss : List Addr) (φ : List Value → Heap → Prop) (a : Addr) (g : Nat) (W : Nat → Nat → List V → Hp → Prop) (Yl : Nat → Nat → List V → V → Hp → Prop) (Dn : List V → Hp → Prop)
/-- an item is handed out -/
def GY : Protocol := fun n s₀ v s kap => (∀ b ∈ Ss, ∀ o, s₀.heap.get? b = some o → s.heap.get? b = some o) ∧ ∃ (m i : Nat) (acc : List V) (us : List Value) (y : V) (H4 : Hp), m ≤ n ∧ Vals acc us ∧ φ us s.heap ∧ Inv X pins σ H4 s ∧ RelV y v ∧ s.heap.IsGen a g ∧ (∀ b ∈ Ss, H4 b = none ∧ ∃ o, s.heap.get? b = some o ∧ ∀ v, o.data ≠ .cell v) ∧ Yl m i acc y H4 ∧
  ∀ s', Slp Ss s s' → φ (us ++ [v]) s'.heap → ∀ m', m' < m → W m' (i + 1) (acc ++ [y]) H4 → kap (.send .none) s'
def GP : Nat → Shared → Shared → Prop := fun n s₀ s => (∀ b ∈ Ss, ∀ o, s₀.heap.get? b = some o → s.heap.get? b = some o) ∧ ∃ (acc : List V) (us : List Value) (H4 : Hp), Vals acc us ∧ φ us s.heap ∧ Inv X pins σ H4 s ∧ (∀ b ∈ Ss, H4 b = none ∧ ∃ o, s.heap.get? b = some o ∧ ∀ v, o.data ≠ .cell v) ∧ Dn acc H4
/-- ready to be woken under A -/
structure GSt (A : Around) (n m i : Nat) (acc : List V) (us : List Value) (H : Hp) (s : Shared) : Prop where
  gen : s.heap.IsGen a g
  inv : Inv X pins σ H s
  own : ∀ b ∈ Ss, H b = none ∧ ∃ o, s.heap.get? b = some o ∧ ∀ v, o.data ≠ .cell v
  vals : Vals acc us
  w : W m i acc H
  le : m < n
  phi : φ us s.heap
  goes : ∃ gs, s.gens[g]? = some gs ∧ gs.Goes (model X.prog X.w) A (fun n s₀ r s₁ => r = .ok .next ∧ GP X pins σ Ss φ Dn n s₀ s₁) (GY X pins σ Ss φ a g W Yl) n (.send .none) (s.setGen g .running)
end
section
variable {X : Cx} {pins : List (Addr × Obj)} {σ : L2.St} {Ss : List Addr} {φ : List Value → Heap → Prop} {a : Addr} {g : Nat} {W : Nat → Nat → List V → Hp → Prop} {Yl : Nat → Nat → List V → V → Hp → Prop} {Dn : List V → Hp → Prop}
theorem bare_set {s : Shared} {g : Nat} {x : GenState} (h : AllBare s.gens) (hx : x.bare = true) : AllBare (s.setGen g x).gens := by
  intro y hy
  obtain ⟨i, hi, e⟩ := Array.mem_iff_getElem.mp hy
  by_cases hg : i = g
  · subst hg
    simp only [Shared.setGen, Array.getElem_setIfInBounds_self] at e
    rw [← e]; exact hx
  · simp only [Shared.setGen] at e hi
    rw [Array.getElem_setIfInBounds_ne (by simpa using hi) (Ne.symm hg)] at e
    rw [← e]
    exact h _ (Array.getElem_mem _)
theorem GSt.next {A : Around} {E : Value → Shared → Prop} {Q : Option Value → Shared → Prop} {n m i : Nat} {acc : List V} {us : List Value} {H : Hp} {s : Shared} (hh : A.handled = none) (hroom : A.depth < recursionLimit) (hφ : ∀ us h h', (∀ b ∈ Ss, ∀ o, h.get? b = some o → h'.get? b = some o) → φ us h → φ us h')
    (hS : ∀ b ∈ Ss, Apt X pins b) (ha : a ∉ Ss) (G : GSt X pins σ Ss φ a g W Yl Dn A.in1 n m i acc us H s)
    (hY : ∀ v s' n' m i acc us y H', n = n' + 1 → (∀ b ∈ Ss, ∀ o, s.heap.get? b = some o → s'.heap.get? b = some o) → Vals acc us → φ us s'.heap → Inv X pins σ H' s' → RelV y v → (∀ b ∈ Ss, H' b = none ∧ ∃ o, s'.heap.get? b = some o ∧ ∀ v, o.data ≠ .cell v) → Yl m i acc y H' →
      (∀ s'', Slp Ss s' s'' → s''.gens = s'.gens → φ (us ++ [v]) s''.heap → ∀ m', m' < m → W m' (i + 1) (acc ++ [y]) H' → GSt X pins σ Ss φ a g W Yl Dn A.in1 n' m' (i + 1) (acc ++ [y]) (us ++ [v]) H' s'') → Q (some v) s')
    (hD : ∀ s' acc us H', (∀ b ∈ Ss, ∀ o, s.heap.get? b = some o → s'.heap.get? b = some o) → Vals acc us → φ us s'.heap → Inv X pins σ H' s' → (∀ b ∈ Ss, H' b = none ∧ ∃ o, s'.heap.get? b = some o ∧ ∀ v, o.data ≠ .cell v) → Dn acc H' → Q none s') :
    wpAny (model X.prog X.w) A (pyNext (.ref a)) Q E s := by
  obtain ⟨g1, g2, g3, g4, g5, g6, g7, gs, hgs, hgo⟩ := G
  have hlt0 : g + 1 ≤ s.gens.size := (Array.getElem?_eq_some_iff.mp hgs).1
  refine wpAny_gsz hlt0 ?_
  refine wpAny_pyNext_genexpQ (P := GP X pins σ Ss φ Dn) hh g2.nolimit hroom g1 hgs hgo (fun v s₁ gs' hb hv => ?_) (fun s₁ hp h' hk => ?_)
  · obtain ⟨q0, m, i, acc, us, y, H4, q1, q2, q3, q4, q5, q6, q7, q8, q9⟩ := hv
    cases n with
    | zero => omega
    | succ n' =>
      intro hsz
      refine hY v (s₁.setGen g gs') n' m i acc us y H4 rfl q0 q2 q3 (inv_gens q4 (bare_set q4.bare hb)) q5 q7 q8 fun s'' z hgens hφ' m' hm w => ?_
      have hk := q9 { s'' with gens := (s''.setGen g .running).gens } ⟨z.os, bare_set z.bare rfl, z.keep, z.own⟩ hφ' m' hm w
      have hI : Inv X pins σ H4 s'' := woken (inv_gens q4 (bare_set (g := g) q4.bare hb)) (fun b hb => (q7 b hb).1) hS z
      have hlt : g < s''.gens.size := by rw [hgens]; exact hsz
      refine ⟨?_, hI, fun b hb => ⟨(q7 b hb).1, z.own b hb⟩, q2.append (.cons q5 .nil), w, by omega, hφ', gs', ?_, hk⟩
      · obtain ⟨o, nm, qn, ho, r⟩ := q6
        exact ⟨o, nm, qn, z.keep a o ha ho, r⟩
      · rw [hgens]
        have : g < (s₁.setGen g gs').gens.size := by rw [← hgens]; exact hlt
        rw [setGen_size] at this
        simp [Shared.setGen, this]
  · obtain ⟨q0, acc, us, H4, q1, q2, q3, q4, q5⟩ := hp
    have hI : Inv X pins σ H4 { s₁.setGen g .finished with heap := h' } := by
      have := (inv_gens q3 (bare_set (g := g) (x := .finished) q3.bare rfl)).kept (t' := s₁.toks) (h' := h') hk
      exact this
    intro _
    exact hD _ acc us H4 (fun b hb o e => hk b o (q0 b hb o e)) q1 (hφ _ _ _ (fun b _ o e => hk b o e) q2) hI (fun b hb => ⟨(q4 b hb).1, let ⟨o, e, d⟩ := (q4 b hb).2; ⟨o, hk b o e, d⟩⟩) q5
end
end GX

set_option maxHeartbeats 2000000
/-! Y3: the generator's own code, from one waking to the next. -/
namespace GX
open PySem PySem.Spec PyProof.Rows L2 GenW
open Sem (wp)

theorem over_loop0 {A : Around} {elt : Expr} {gens : List Comprehension} {scope : Scope} {pos : Pos} {it acc : Value} {env : Env} : A.over (.compLoop (.GeneratorExp elt gens scope pos) 0 it acc env) [] = A.deeper env := by
  first
    | rfl
    | (obtain ⟨hd, d, fr, gs, u⟩ := A; simp [Around.over, Around.deeper, marksOver, frameCount, unitsOf, envsOf, guardsOf, pushEnvs, pushGuards, Code.envs, Code.env?, Code.isFrame, Code.guards, Code.isGuard, Code.weight, Code.frames, Code.isCreation, Code.isCaller, Code.cUnits])
theorem over_start0 {A : Around} {elt : Expr} {gens : List Comprehension} {scope : Scope} {pos : Pos} {it acc : Value} {env : Env} : A.over (.compStart (.GeneratorExp elt gens scope pos) 0 it acc env) [] = A.deeper env := by
  first
    | rfl
    | (obtain ⟨hd, d, fr, gs, u⟩ := A; simp [Around.over, Around.deeper, marksOver, frameCount, unitsOf, envsOf, guardsOf, pushEnvs, pushGuards, Code.envs, Code.env?, Code.isFrame, Code.guards, Code.isGuard, Code.weight, Code.frames, Code.isCreation, Code.isCaller, Code.cUnits])

section
variable {X : Cx} {pins : List (Addr × Obj)} {σ : L2.St} {Ss : List Addr} {φ : List Value → Heap → Prop} {a : Addr} {go : Obj} {g : Nat} {W : Nat → Nat → List V → Hp → Prop} {Yl : Nat → Nat → List V → V → Hp → Prop} {Dn : List V → Hp → Prop}
  {A : Around} {s0 : Shared} {H0 : Hp} {scope : Scope} {cenv : Env} {fp : List Addr} {it : Addr} {tn : Nat → Heap → Prop} {J : It} {elt tg iter : Expr} {ifs : List Expr} {pos : Pos} {gt : TG} {tt : TT} {te : TE} {vs : List Nat}
/-- back in the context around -/
theorem outside {pl : List (Addr × Obj)} {σ' : L2.St} {H : Hp} {s : Shared} (I0 : Inv X pins σ H0 s0) (hfp : ∀ b ∈ fp, FpOk X pins H0 b ∧ b < s0.heap.objs.size) (I : Inv (gcx X A s0 H0 scope cenv fp) pl σ' H s) : Inv X pins σ H s :=
  I0.call' (ch := fp) I.os I.base I.hok I.bare fun b hb => ⟨(hfp b hb).1.2.2.2.1, (hfp b hb).1.2.1, (hfp b hb).1.2.2.2.2.1, (hfp b hb).1.2.2.2.2.2⟩
/-- what the generator's run wants -/
structure GRun (X : Cx) (pins : List (Addr × Obj)) (σ : L2.St) (Ss : List Addr) (φ : List Value → Heap → Prop) (a : Addr) (go : Obj) (g : Nat) (A : Around) (s0 : Shared) (H0 : Hp) (scope : Scope) (cenv : Env) (fp : List Addr) (it : Addr) (tn : Nat → Heap → Prop) (J : It) (tg : Expr) : Prop where
  hh : A.handled = none
  inv : Inv X pins σ H0 s0
  fpo : ∀ b ∈ fp, FpOk X pins H0 b ∧ b < s0.heap.objs.size
  T : Turn X.prog X.w X.K tg J fp it tn
  co : cenv.scope.isCoroutine = false
  sx : ∀ b ∈ Ss, Apt X pins b
  sg : ∀ b ∈ Ss, Apt (gcx X A s0 H0 scope cenv fp) [(a, go)] b
  sf : ∀ b ∈ Ss, b ∉ fp
  af : a ∉ fp
  gen : ∀ h : Heap, h.get? a = some go → h.IsGen a g
  phi : ∀ us h h', (∀ b ∈ Ss, ∀ o, h.get? b = some o → h'.get? b = some o) → φ us h → φ us h'
/-- one turn's questions -/
def TurnQ (J : It) (gt : TG) (tt : TT) (te : TE) (vs : List Nat) (σ : L2.St) (W : Nat → Nat → List V → Hp → Prop) (Yl : Nat → Nat → List V → V → Hp → Prop) (Dn : List V → Hp → Prop) : Prop :=
  ∀ m i acc H, W m i acc H → (J.stop i H ∧ Dn acc H) ∨ (J.go i H ∧ ∀ x H', J.yld i H x H' → gt x (wipe σ vs) H' fun σ2 H2 => wipe σ2 vs = wipe σ vs ∧ tt σ2 H2 fun b H3 =>
    if b = true then te σ2 H3 fun y H4 => Yl m i acc y H4 else ∃ m', m' < m ∧ W m' (i + 1) acc H3)
theorem seg_run (R : GRun X pins σ Ss φ a go g A s0 H0 scope cenv fp it tn J tg) (pg : PG (gcx X A s0 H0 scope cenv fp) tg gt) (pt : PTs (gcx X A s0 H0 scope cenv fp) ifs tt) (pe : PE (gcx X A s0 H0 scope cenv fp) elt te)
    (turn : TurnQ J gt tt te vs σ W Yl Dn) :
    ∀ (m n i : Nat) (acc : List V) (us : List Value) (s₀ s : Shared) (H : Hp), Inv (gcx X A s0 H0 scope cenv fp) ([(a, go)] ++ pinsAt Ss s.heap) (wipe σ vs) H s → tn i s.heap → (∀ b ∈ fp, H b = none) → Vals acc us → φ us s.heap →
      (∀ b ∈ Ss, H b = none ∧ ∃ o, s.heap.get? b = some o ∧ ∀ v, o.data ≠ .cell v) → W m i acc H → m < n → (∀ b ∈ Ss, ∀ o, s₀.heap.get? b = some o → s.heap.get? b = some o) →
      Seg (model X.prog X.w) A (fun n s₀ r s₁ => r = .ok .next ∧ GP X pins σ Ss φ Dn n s₀ s₁) (GY X pins σ Ss φ a g W Yl) n s₀ (.compLoop (.GeneratorExp elt [⟨tg, iter, ifs, 0⟩] scope pos) 0 (.ref it) .none cenv)
        ((model X.prog X.w).den (.compLoop (.GeneratorExp elt [⟨tg, iter, ifs, 0⟩] scope pos) 0 (.ref it) .none cenv)) [] s := by
  intro m
  induction m using Nat.strongRecOn with
  | ind m ih =>
    intro n i acc us s₀ s H I st hfpn rv hφ own w hmn hk0
    have stat : ∀ {σ' : L2.St} {H' : Hp} {s' : Shared} {pl : List (Addr × Obj)}, Inv (gcx X A s0 H0 scope cenv fp) pl σ' H' s' → (∀ b ∈ fp, H' b = none) → ∀ b ∈ fp, FpOk (gcx X A s0 H0 scope cenv fp) ([(a, go)] ++ pinsAt Ss s.heap) H' b := fun {σ' H' s' pl} I' hn b hb =>
      ⟨hn b hb, (I'.ok.exf b hb).1, I'.ok.exfs b hb, .inl hb, fun x c e => (I'.ok.exf b hb).2 x c e, fun p hp => by
        have hp : p ∈ [(a, go)] ++ pinsAt Ss s.heap := hp
        rcases List.mem_append.mp hp with z | z
        · rw [List.mem_singleton.mp z]
          exact fun e => R.af (by have e' : a = b := e; rw [e']; exact hb)
        · exact fun e => R.sf _ (of_pinsAt z).1 (by rw [e]; exact hb)⟩
    show Seg _ A _ _ n s₀ _ ((compTurn (.GeneratorExp elt [⟨tg, iter, ifs, 0⟩] scope pos) 0 (.ref it) .none cenv).onRaise (leaving cenv)) [] s
    rw [compTurn_gen, Sem.onRaise_eq_wrap]
    refine seg_bind_wrap (wpAny_standAt ?_)
    rcases turn m i acc H w with ⟨stop, qq⟩ | ⟨go', step⟩
    · have td := R.T.done (gcx X A s0 H0 scope cenv fp) rfl rfl rfl rfl i _ s _ H (fun _ _ => False) I (stat I hfpn) st stop
      refine seg_bind_wrap ?_
      rw [over_loop0]
      refine thnF td fun r s6 ⟨hr, I6⟩ => ?_
      subst hr
      have kp : ∀ b ∈ Ss, ∀ o, s.heap.get? b = some o → s6.heap.get? b = some o := fun b hb o e => (I6.pin (b, o) (List.mem_append_right _ (List.mem_append_right _ (mem_pinsAt hb e)))).1
      refine seg_end (.ok .next) ⟨rfl, fun b hb o e => kp b hb o (hk0 b hb o e), acc, us, H, rv, R.phi _ _ _ kp hφ, outside R.inv R.fpo I6, fun b hb => ⟨(own b hb).1, let ⟨o, e, d⟩ := (own b hb).2; ⟨o, kp b hb o e, d⟩⟩, qq⟩
    · have ti := R.T.item (gcx X A s0 H0 scope cenv fp) rfl rfl rfl rfl i _ s _ H (fun _ _ => False) I (stat I hfpn) st go'
      refine seg_bind_wrap ?_
      rw [over_loop0]
      refine thnF ti fun r s6 ⟨u, hr, h6⟩ => ?_
      subst hr
      refine seg_bind_wrap ?_
      rw [over_loop0]
      refine thnF h6 fun _ s7 ⟨x, H7, I7, r7, y7, st7, n7⟩ => ?_
      have I7' := I7.pinned (stat I7 n7) (R.T.obj _ _ st7)
      refine seg_bind_wrap ?_
      rw [over_loop0]
      refine thnF (pg.run _ s7 _ H7 x u _ I7' r7 (step x H7 y7)) fun _ s8 ⟨σ8, H8, I8, hw8, q8⟩ => ?_
      refine seg_bind_wrap ?_
      rw [over_loop0]
      refine thnF (pt.run _ s8 σ8 H8 _ I8 q8) fun b s9 ⟨H9, I9, q9⟩ => ?_
      -- what stands wherever the turn's names stand
      have pin' : ∀ {σ' : L2.St} {H' : Hp} {s' : Shared}, Inv (gcx X A s0 H0 scope cenv fp) (([(a, go)] ++ pinsAt Ss s.heap) ++ pinsAt fp s7.heap) σ' H' s' → ∀ b ∈ fp, ∀ o, s7.heap.get? b = some o → s'.heap.get? b = some o ∧ H' b = none := fun {σ' H' s'} I' b hb o e =>
        let z := I'.pin (b, o) (List.mem_append_right _ (List.mem_append_right _ (mem_pinsAt hb e)))
        ⟨z.1, z.2.1⟩
      have pinS : ∀ {σ' : L2.St} {H' : Hp} {s' : Shared}, Inv (gcx X A s0 H0 scope cenv fp) (([(a, go)] ++ pinsAt Ss s.heap) ++ pinsAt fp s7.heap) σ' H' s' → ∀ b ∈ Ss, ∀ o, s.heap.get? b = some o → s'.heap.get? b = some o ∧ H' b = none := fun {σ' H' s'} I' b hb o e =>
        let z := I'.pin (b, o) (List.mem_append_right _ (List.mem_append_left _ (List.mem_append_right _ (mem_pinsAt hb e))))
        ⟨z.1, z.2.1⟩
      have hl : (wipe σ vs).length = σ8.length := by rw [← wipe_length σ8 vs, hw8]
      have wk : ∀ {H' : Hp} {s' : Shared} {pl : List (Addr × Obj)}, Inv (gcx X A s0 H0 scope cenv fp) pl σ8 H' s' → Inv (gcx X A s0 H0 scope cenv fp) pl (wipe σ vs) H' s' := fun {H' s' pl} I' => I'.weak hl fun j v e => by
        rw [← hw8] at e
        exact (wipe_some e).1
      have own' : ∀ {σ' : L2.St} {H' : Hp} {s' : Shared}, Inv (gcx X A s0 H0 scope cenv fp) (([(a, go)] ++ pinsAt Ss s.heap) ++ pinsAt fp s7.heap) σ' H' s' → ∀ b ∈ Ss, H' b = none ∧ ∃ o, s'.heap.get? b = some o ∧ ∀ v, o.data ≠ .cell v := fun {σ' H' s'} I' b hb => by
        obtain ⟨o, e, d⟩ := (own b hb).2
        obtain ⟨z1, z2⟩ := pinS I' b hb o e
        exact ⟨z2, o, z1, d⟩
      cases b with
      | false =>
        simp only [Bool.false_eq_true, if_false] at q9 ⊢
        obtain ⟨m', hm', w'⟩ := q9
        have own9 := own' I9
        have I10 : Inv (gcx X A s0 H0 scope cenv fp) ([(a, go)] ++ pinsAt Ss s9.heap) (wipe σ vs) H9 s9 :=
          (wk (I9.unpinned.unpinned)).pinned (fun b hb => (R.sg b hb).fp (own9 b hb).1) fun b hb => (own9 b hb).2
        refine seg_again rfl (ih m' hm' n (i + 1) acc us s₀ s9 H9 I10 (R.T.keep _ _ _ st7 fun b hb o e => (pin' I9 b hb o e).1) (fun b hb => ?_) rv (R.phi _ _ _ (fun b hb o e => (pinS I9 b hb o e).1) hφ) own9 w' (by omega) fun b hb o e => (pinS I9 b hb o (hk0 b hb o e)).1)
        obtain ⟨o, e, _⟩ := R.T.obj _ _ st7 b hb
        exact (pin' I9 b hb o e).2
      | true =>
        simp only [if_true] at q9 ⊢
        have hy : ∀ v, yieldOut cenv v = yieldValue v := fun v => by simp only [yieldOut, R.co, Bool.false_eq_true, if_false]
        simp only [hy]
        rw [Sem.bind_eq_wrap', Sem.bind_eq_wrap', Sem.wrap_wrap, Sem.wrap_wrap]
        refine seg_wrap ?_
        rw [over_loop0]
        refine thnF (pe.run _ s9 σ8 H9 _ I9 q9) fun v s10 ⟨y, H10, I10, r10, yl⟩ => ?_
        cases n with
        | zero => omega
        | succ n =>
          have own10 := own' I10
          have hg10 : s10.heap.IsGen a g := R.gen _ (I10.pin (a, go) (List.mem_append_right _ (List.mem_append_left _ (List.mem_append_left _ (List.mem_singleton.mpr rfl))))).1
          refine seg_at (seg_yield rfl rfl rfl ⟨fun b hb o e => (pinS I10 b hb o (hk0 b hb o e)).1, m, i, acc, us, y, H10, by omega, rv, R.phi _ _ _ (fun b hb o e => (pinS I10 b hb o e).1) hφ, outside R.inv R.fpo I10, r10, hg10, own10, yl, fun s' z hφ' m' hm' w' => ?_⟩)
          have I11 : Inv (gcx X A s0 H0 scope cenv fp) [(a, go)] (wipe σ vs) H10 s' := wk (woken (I10.unpinned.unpinned) (fun b hb => (own10 b hb).1) R.sg z)
          have own11 : ∀ b ∈ Ss, H10 b = none ∧ ∃ o, s'.heap.get? b = some o ∧ ∀ v, o.data ≠ .cell v := fun b hb => ⟨(own10 b hb).1, z.own b hb⟩
          refine seg_again rfl (ih m' hm' n (i + 1) (acc ++ [y]) (us ++ [v]) s' s' H10 (I11.pinned (fun b hb => (R.sg b hb).fp (own11 b hb).1) fun b hb => (own11 b hb).2) (R.T.keep _ _ _ st7 fun b hb o e => z.keep b o (fun hs => R.sf b hs hb) (pin' I10 b hb o e).1) (fun b hb => ?_)
            (rv.append (.cons r10 .nil)) hφ' own11 w' (by omega) fun _ _ _ e => e)
          obtain ⟨o, e, _⟩ := R.T.obj _ _ st7 b hb
          exact (pin' I10 b hb o e).2
theorem seg_first (R : GRun X pins σ Ss φ a go g A s0 H0 scope cenv fp it tn J tg) (pg : PG (gcx X A s0 H0 scope cenv fp) tg gt) (pt : PTs (gcx X A s0 H0 scope cenv fp) ifs tt) (pe : PE (gcx X A s0 H0 scope cenv fp) elt te)
    (turn : TurnQ J gt tt te vs σ W Yl Dn) (m n : Nat) (s₀ s : Shared) (H : Hp) (I : Inv (gcx X A s0 H0 scope cenv fp) ([(a, go)] ++ pinsAt Ss s.heap) (wipe σ vs) H s) (st : tn 0 s.heap) (hn : ∀ b ∈ fp, H b = none) (hφ : φ [] s.heap)
    (own : ∀ b ∈ Ss, H b = none ∧ ∃ o, s.heap.get? b = some o ∧ ∀ v, o.data ≠ .cell v) (w : W m 0 [] H) (hm : m < n) (hk0 : ∀ b ∈ Ss, ∀ o, s₀.heap.get? b = some o → s.heap.get? b = some o) :
    Seg (model X.prog X.w) A (fun n s₀ r s₁ => r = .ok .next ∧ GP X pins σ Ss φ Dn n s₀ s₁) (GY X pins σ Ss φ a g W Yl) n s₀ (.compStart (.GeneratorExp elt [⟨tg, iter, ifs, 0⟩] scope pos) 0 (.ref it) .none cenv)
        ((model X.prog X.w).den (.compStart (.GeneratorExp elt [⟨tg, iter, ifs, 0⟩] scope pos) 0 (.ref it) .none cenv)) [] s := by
  have loop := seg_run (iter := iter) (pos := pos) R pg pt pe turn m n 0 [] [] s₀ s H I st hn .nil hφ own w hm hk0
  show Seg _ A _ _ _ s₀ _ ((compStart (.GeneratorExp elt [⟨tg, iter, ifs, 0⟩] scope pos) 0 (.ref it) .none cenv).onRaise (leaving cenv)) [] s
  unfold compStart
  rw [Sem.onRaise_eq_wrap]
  show Seg _ A _ _ _ s₀ _ ((ask >>= _).wrap _ _ _ _) [] s
  refine seg_bind_wrap (wpAny_askSetting ?_)
  split
  · exact seg_again rfl loop
  · first
      | exact seg_bind_wrap (wpAny_rule (seg_bind_wrap (wpAny_standAt (seg_bind_wrap (R.T.self _ 0 s _ _ st (seg_again rfl loop))))))
      | (refine seg_bind_wrap (wpAny_rule ?_); show Seg _ A _ _ _ s₀ _ ((standAt iter.pos >>= _).wrap _ _ _ _) [] s; exact seg_bind_wrap (wpAny_standAt (seg_bind_wrap (R.T.self _ 0 s _ _ st (seg_again rfl loop)))))
end
end GX

set_option maxHeartbeats 2000000
/-! Y4: a generator expression is made. -/
namespace GX
open PySem PySem.Spec PyProof.Rows L2 GenW
open Sem (wp)

theorem newEnv_gen {M : Model} {A : Around} {E : Value → Shared → Prop} {s : Shared} {scope : Scope} {globals : Addr} {cl : List (Str × Addr)} {qual : Str} {code : Value} {builtins : Addr} {it : Value} {Q : Env → Shared → Prop} (hk : scope.kind = .function) (h0 : scope.names.lookup (".0" : Str) = some NameKind.local)
    (h : ∀ (h' : Heap) (tk : Nat), h'.Ns s.heap.objs.size (fun y => if y = (".0" : Str) then some it else none) → Heap.SameBut s.heap.objs.size (pushCells (s.heap.push { cls := .type "frame", data := .dict #[] }) scope.names) h' →
      Q (newEnv scope s.heap.objs.size globals (cellsFrom (s.heap.objs.size + 1) scope.names cl) qual none code none builtins) { s with heap := h', toks := tk }) :
    wpAny M A (newFunctionEnv scope globals cl [(".0", it)] qual none code none builtins) Q E s := by
  simp only [newFunctionEnv, Option.isSome_none, Bool.false_eq_true, if_false]
  refine wpAny_bind (wpAny_alloc ?_)
  refine wpAny_bind (wpAny_layCells _ (fun name kind cells => by cases hkc : kind == NameKind.cell <;> simp [hkc]) _ _ _ _ ?_)
  rw [show ({ s with heap := s.heap.push { cls := .type "frame", data := .dict #[] } } : Shared).heap.objs.size = s.heap.objs.size + 1 from Heap.size_push ..]
  rw [List.forIn_cons]
  refine wpAny_bind (wpAny_bind (wpAny_bind (wpAny_storeName_local (m := fun _ => none) h0 ((Heap.Ns.new s.heap (.type "frame")).keeps fun b o e => pushCells_keeps _ _ _ _ e) (fun h' hn hs => ?_) (by show (scope.kind == .class || (scope.kind == .module && _)) = false; rw [hk]; rfl))))
  refine wpAny_pure ?_
  simp only [List.forIn_nil]
  refine wpAny_pure (wpAny_pure (h h' _ hn hs))

theorem gx_make {M : Model} {A : Around} {E : Value → Shared → Prop} {s : Shared} {env : Env} {elt target iter : Expr} {ifs : List Expr} {scope : Scope} {cl : List (Str × Addr)} {pos : Pos} {Q : Value → Shared → Prop}
    (hco : scope.isCoroutine = false) (hclos : closureFor scope env = pure cl) (h0 : scope.names.lookup (".0" : Str) = some NameKind.local) (hkind : scope.kind = .function)
    (hroom : A.depth < recursionLimit)
    (h : wpAny M A (eval iter env) (fun xv s₁ => wpAny M A (pyIter xv) (fun it s₂ => s₂.heap.NoLimit ∧
      wpAny M A (genexprCode env pos (env.qual ++ "<genexpr>") scope) (fun code s₃ => wpAny M A (builtinsFor env.globals env.builtins) (fun bi s₄ =>
        ∀ (h' : Heap) (tk : Nat) (nm qn : Value), h'.Ns s₄.heap.objs.size (fun y => if y = (".0" : Str) then some it else none) → Heap.SameBut s₄.heap.objs.size (pushCells (s₄.heap.push { cls := .type "frame", data := .dict #[] }) scope.names) h' →
          Q (.ref h'.objs.size) { s₄ with
            gens := s₄.gens.push (.fresh (.compStart (.GeneratorExp elt [⟨target, iter, ifs, 0⟩] scope pos) 0 it .none (newEnv scope s₄.heap.objs.size env.globals (cellsFrom (s₄.heap.objs.size + 1) scope.names cl) (env.qual ++ "<genexpr>.") none code none bi))),
            toks := tk,
            heap := h'.push { cls := .type "generator", data := .fields #[.int s₄.gens.size 0, nm, qn] } }) E s₃) E s₂) E s₁) E s)
    (hs : ∀ x, genFold iter env x = pure x) :
    wpAny M A (eval (.GeneratorExp elt [⟨target, iter, ifs, 0⟩] scope pos) env) Q E s := by
  rw [eval_GeneratorExp1 _ _ _ _ _ _ _ hco, hclos]
  refine wpAny_bind (wpAny_mono h (fun xv s₁ h₁ => ?_) fun _ _ e => e)
  refine wpAny_bind (wpAny_standAt ?_)
  refine wpAny_bind (wpAny_of_eq (hs xv) ?_)
  refine wpAny_bind (wpAny_holding (wpAny_mono h₁ (fun it s₂ h₂ => ?_) fun _ _ e => e))
  refine wpAny_bind (wpAny_enterFrame h₂.1 hroom ?_)
  refine wpAny_bind (wpAny_pure ?_)
  refine wpAny_bind (wpAny_mono h₂.2 (fun code s₃ h₃ => ?_) fun _ _ e => e)
  refine wpAny_bind (wpAny_mono h₃ (fun bi s₄ h₄ => ?_) fun _ _ e => e)
  refine wpAny_bind (newEnv_gen hkind h0 (fun h' tk hn' hs' => ?_))
  simp only [newGenerator, newFields]
  refine wpAny_bind (wpAny_newGen (wpAny_bind (wpAny_mkText (wpAny_bind (wpAny_mkText (wpAny_newObj_type ?_ (by size_fits)))))))
  exact h₄ h' _ _ _ hn' hs'

/-- a thing that stands, told nothing of -/
abbrev anyU : HO := .ext fun _ => True
/-- a code object whose table stands at P -/
def CodeO (o : Obj) (c P : Addr) : Prop := ∃ vs file tf flags tg inF text tt, o.cls = .type "code" ∧ o.data = .fields vs ∧ vs[11]? = some (.ref P) ∧ vs.getD 11 .none = .ref P ∧ vs.getD 18 .none = .str file tf ∧
    vs.getD 7 .none = .int flags tg ∧ vs.getD 9 .none = .bool inF ∧ vs.getD 10 .none = .int text tt ∧ c ≠ P
theorem CodeO.hd {o : Obj} {c P : Addr} {h : Heap} (x : CodeO o c P) (e : h.get? c = some o) : PySem.W.CodeHd h c P :=
  let ⟨vs, file, tf, flags, tg, inF, text, tt, r⟩ := x; ⟨o, vs, file, tf, flags, tg, inF, text, tt, e, r⟩
theorem CodeO.of {c P : Addr} {h : Heap} (x : PySem.W.CodeHd h c P) : ∃ o, h.get? c = some o ∧ CodeO o c P :=
  let ⟨o, vs, file, tf, flags, tg, inF, text, tt, e, r⟩ := x; ⟨o, e, vs, file, tf, flags, tg, inF, text, tt, r⟩
/-- the table at P, asked for the code at pos -/
def TabStep (P : Addr) (pos : Pos) (H1 H2 : Hp) (code : Value) : Prop :=
  (∃ ps, H1 P = some (.tbl ps) ∧ codeAmong pos ps.toList = some code ∧ H2 = H1) ∨
  ∃ (ps : Array Value) (c' P' : Addr) (o : Obj), H1 P = some (.tbl ps) ∧ TriplesOk ps.toList ∧ codeAmong pos ps.toList = none ∧ code = .ref c' ∧ H1 c' = none ∧ H1 P' = none ∧ c' ≠ P' ∧ c' ≠ P ∧ P' ≠ P ∧ CodeO o c' P' ∧
    H2 = upd (upd (upd H1 P (.tbl (ps ++ #[rawInt pos.line, rawInt pos.col, .ref c']))) P' (.tbl #[])) c' (.frz o anyU)
/-- a thing that stood untracked is tracked -/
theorem inv_seen {X : Cx} {pins : List (Addr × Obj)} {σ : L2.St} {H : Hp} {s : Shared} {b : Addr} {o : HO} (I : Inv X pins σ H s) (x : FpOk X pins H b) (hx : X.s_0.heap.objs.size ≤ b) (k : ObjOk X.prog X.w (upd H b o) s.heap b o) : Inv X pins σ (upd H b o) s := by
  obtain ⟨f0, f1, f2, f3, f4, f5⟩ := x
  have ne0 : ∀ c u, X.s_0.heap.get? c = some u → c ≠ b := fun c u e z => by
    have := Heap.lt_size e
    rw [z] at this
    exact absurd (Nat.lt_of_lt_of_le this hx) (Nat.lt_irrefl _)
  have neT : ∀ c u, H c = some u → c ≠ b := fun c u e z => by rw [z, f0] at e; cases e
  refine ⟨I.ok, I.os, I.bare, ⟨fun c u e n hc hx => I.base.keep c u e n hc hx, fun c u e n hc hx => I.base.slot c u e n hc hx, fun c u e n hx => ?_, I.base.there, fun c xs e => ?_, fun c ob xs e => ?_, fun c ps e => ?_⟩, I.loc, I.cell, ?_, fun y c e => ?_, fun p hp => ?_, fun c u e => ?_, I.len⟩
  · rw [upd_ne (ne0 c u e)]; exact I.base.free c u e n hx
  · have := I.base.tups c xs e
    rw [upd_ne (neT c _ this)]; exact this
  · have := I.base.frzs c ob xs e
    rw [upd_ne (neT c _ this)]; exact this
  · obtain ⟨more, this⟩ := I.base.tbls c ps e
    exact ⟨more, by rw [upd_ne (neT c _ this)]; exact this⟩
  · rw [upd_ne (Ne.symm f1)]; exact I.free
  · rw [upd_ne (f4 y c e)]; exact I.freeC y c e
  · obtain ⟨q1, q2, q3⟩ := I.pin p hp
    exact ⟨q1, by rw [upd_ne (f5 p hp)]; exact q2, q3⟩
  · by_cases hc : c = b
    · subst hc
      rw [upd_same] at e; cases e
      exact k
    · rw [upd_ne hc] at e
      exact (I.hok c u e).stay (fun _ _ _ q => q) (fun d q => by rw [upd_ne (neT d _ q)]; exact q) fun d xs q => by rw [upd_ne (neT d _ q)]; exact q
/-- what is known of a generator that has been made, and not begun; H2 the heap then -/
def Made (X : Cx) (pins : List (Addr × Obj)) (σ : L2.St) (H2 : Hp) (code : Value) (scope : Scope) (own : List (Str × Nat)) (elt tg iter : Expr) (ifs : List Expr) (pos : Pos) (J : It) (a : Addr) (s5 : Shared) : Prop :=
  Inv X pins σ H2 s5 ∧ ∃ (g : Nat), s5.heap.IsGen a g ∧ (∀ b, s5.heap.objs.size ≤ b → Apt X pins b) ∧
    ∀ (A : Around) (Ss : List Addr) (φ : List Value → Heap → Prop) (W : Nat → Nat → List V → Hp → Prop) (Yl : Nat → Nat → List V → V → Hp → Prop) (Dn : List V → Hp → Prop) (gt : TG) (tt : TT) (te : TE) (m n : Nat) (s6 : Shared),
      A.handled = none → A.frames = some X.stack → (∀ us h h', (∀ b ∈ Ss, ∀ o, h.get? b = some o → h'.get? b = some o) → φ us h → φ us h') →
      (∀ b ∈ Ss, s5.heap.objs.size ≤ b ∧ ∃ o, s6.heap.get? b = some o ∧ ∀ v, o.data ≠ .cell v) → (∀ b o, s5.heap.get? b = some o → s6.heap.get? b = some o) → s6.os = s5.os → s6.gens = s5.gens → φ [] s6.heap →
      (∀ (s : Shared) (cl : List (Str × Addr)) (C : Addr) (fp : List Addr), PG (gcx X A s H2 scope (gEnv scope cl C code X) fp) tg gt) → (∀ (s : Shared) (cl : List (Str × Addr)) (C : Addr) (fp : List Addr), PTs (gcx X A s H2 scope (gEnv scope cl C code X) fp) ifs tt) →
      (∀ (s : Shared) (cl : List (Str × Addr)) (C : Addr) (fp : List Addr), PE (gcx X A s H2 scope (gEnv scope cl C code X) fp) elt te) →
      TurnQ J gt tt te (own.map (·.2)) σ W Yl Dn → W m 0 [] H2 → m < n → GSt X pins σ Ss φ a g W Yl Dn A n m 0 [] [] H2 s6
theorem gen_make {X : Cx} {pins : List (Addr × Obj)} {σ : L2.St} {H : Hp} {s : Shared} {c P : Addr} {elt tg iter : Expr} {ifs : List Expr} {gpos : Pos} {scope : Scope} {own : List (Str × Nat)} {wi : TI} {R : It → Hp → Prop} {Q' : Value → Shared → Prop}
    (hd : X.A.depth < recursionLimit) (hbm : ∃ (bm : Addr) (ob : Obj), X.mg "__builtins__" = some (.ref bm) ∧ bm ≠ builtinsNs ∧ X.base.get? bm = some ob ∧ ob.cls = .type "module" ∧ ob.dict = some builtinsNs ∧ ob.data = .plain)
    (hcode : X.env.code = .ref c) (hi : PI X tg iter wi) (ok : BlkOk X.N X.env.scope scope own) (hN : X.N.Nodup) (h0 : (".0" : Str) ∉ X.N) (hl0 : scope.names.lookup (".0" : Str) = some NameKind.local) (hco : scope.isCoroutine = false)
    (hs : ∀ v, genFold iter X.env v = pure v) (I : Inv X pins σ H s)
    (h : wi σ H R) (hT : ∀ J H1 s2, Inv X pins σ H1 s2 → R J H1 → (∃ ps, H1 P = some (.tbl ps) ∧ TriplesOk ps.toList) ∧ PySem.W.CodeHd s2.heap c P)
    (hQ : ∀ J H1 H2 code a s2 s5, Inv X pins σ H1 s2 → R J H1 → TabStep P gpos H1 H2 code → Made X pins σ H2 code scope own elt tg iter ifs gpos J a s5 → Q' (.ref a) s5) :
    wpAny (model X.prog X.w) X.A (eval (.GeneratorExp elt [⟨tg, iter, ifs, 0⟩] scope gpos) X.env) Q' X.xe s := by
  have hfree : ∀ y ∈ scope.names, y.2 = .free → ∃ c, X.env.cells.lookup y.1 = some c := fun y hy e => by
    rcases ok.free y hy e with k | k
    · exact I.ok.has _ (.inl k)
    · exact I.ok.has _ (.inr k)
  refine gx_make hco (closure_ok hfree) hl0 ok.kind hd ?_ hs
  refine thn (hi.run pins s σ H _ I h) fun xv s1 hx => thn hx fun itv s2 h2 => ?_
  obtain ⟨it, fp, tn, J, H1, e, I2, T, st2, f2, hR⟩ := h2
  obtain ⟨⟨ps, hP, ht⟩, cd⟩ := hT J H1 s2 I2 hR
  subst e
  have hPs : s2.heap.get? P = some { cls := .none, data := .fields ps } := I2.hok P _ hP
  have hPlt : P < s2.heap.objs.size := Heap.lt_size hPs
  have szf : ∀ b ∈ fp, b < s2.heap.objs.size := fun b hb => by
    obtain ⟨o, e, _⟩ := T.obj _ _ st2 b hb
    exact Heap.lt_size e
  refine ⟨I2.nolimit, ?_⟩
  -- from the code on
  have cont : ∀ (code : Value) (H2 : Hp) (s3 : Shared), Inv X pins σ H2 s3 → TabStep P gpos H1 H2 code → (∀ b o, b ≠ P → s2.heap.get? b = some o → s3.heap.get? b = some o) → s2.heap.objs.size ≤ s3.heap.objs.size → (∀ b, b < s2.heap.objs.size → b ≠ P → H2 b = H1 b) →
      wpAny (model X.prog X.w) X.A (builtinsFor X.env.globals X.env.builtins) (fun bi s₄ =>
        ∀ (h' : Heap) (tk : Nat) (nm qn : Value), h'.Ns s₄.heap.objs.size (fun y => if y = (".0" : Str) then some (.ref it) else none) → Heap.SameBut s₄.heap.objs.size (pushCells (s₄.heap.push { cls := .type "frame", data := .dict #[] }) scope.names) h' →
          Q' (.ref h'.objs.size) { s₄ with
            gens := s₄.gens.push (.fresh (.compStart (.GeneratorExp elt [⟨tg, iter, ifs, 0⟩] scope gpos) 0 (.ref it) .none (newEnv scope s₄.heap.objs.size X.env.globals (cellsFrom (s₄.heap.objs.size + 1) scope.names (cloFrom X.env.cells scope.names [])) (X.env.qual ++ "<genexpr>.") none code none bi))),
            toks := tk,
            heap := h'.push { cls := .type "generator", data := .fields #[.int s₄.gens.size 0, nm, qn] } }) X.xe s3 := by
    intro code H2 s3 I3 hts k3 hsz hH
    obtain ⟨bm, ob, e1, e2, e3, e4, e5, e6⟩ := hbm
    refine wpAny_builtinsFor (m := X.mg) (by rw [I3.ok.glob]; exact I3.mod.glob.keeps I3.bk) e1 e2 (I3.bk _ _ e3) e4 e5 e6 ?_
    intro h' tk nm qn hns hsb
    generalize hgo : ({ cls := .type "generator", data := .fields #[.int s3.gens.size 0, nm, qn] } : Obj) = go
    have kpc : ∀ b o, s3.heap.get? b = some o → h'.get? b = some o := fun b o e => hsb.extBut b o (Nat.ne_of_lt (Heap.lt_size e)) (pushCells_keeps _ _ _ _ (Heap.get?_push_of_some _ e))
    have lt1 : s3.heap.objs.size < h'.objs.size := hns.lt
    have cellsLt : ∀ y c, (cellsFrom (s3.heap.objs.size + 1) scope.names (cloFrom X.env.cells scope.names [])).lookup y = some c → c < h'.objs.size := fun y c e => by
      rw [← Heap.size_push s3.heap { cls := .type "frame", data := .dict #[] }] at e
      rcases cells_mem (PySem.mem_of_lookup e) with hm | ⟨_, h2, h3⟩
      · rcases cloFrom_mem hm with hm | ⟨h1, rfl⟩
        · cases hm
        · obtain ⟨c, hc⟩ := hfree _ h1 rfl
          rw [hc]
          obtain ⟨w, z⟩ := I3.cell _ _ hc
          exact Nat.lt_trans z.lt lt1
      · rw [Heap.size_push] at h2
        exact (h3.sameBut hsb (Nat.ne_of_gt (Nat.lt_of_succ_le h2))).lt
    have f3 : ∀ b ∈ fp, FpOk X pins H2 b ∧ b < s3.heap.objs.size := fun b hb => by
      have hlt := szf b hb
      obtain ⟨q0, q⟩ := f2 b hb
      have hbP : b ≠ P := fun z => by rw [z, hP] at q0; cases q0
      exact ⟨⟨(hH b hlt hbP).trans q0, q⟩, Nat.lt_of_lt_of_le hlt hsz⟩
    have hgp : (h'.push go).get? h'.objs.size = some go := by rw [← hgo]; exact Heap.get?_push_size _ rfl
    have hgsz : (h'.push go).objs.size = h'.objs.size + 1 := Heap.size_push ..
    have kp5 : ∀ b o, s3.heap.get? b = some o → (h'.push go).get? b = some o := fun b o e => Heap.get?_push_of_some _ (kpc b o e)
    have hbare5 : AllBare (s3.gens.push (.fresh (.compStart (.GeneratorExp elt [⟨tg, iter, ifs, 0⟩] scope gpos) 0 (.ref it) .none (newEnv scope s3.heap.objs.size X.env.globals (cellsFrom (s3.heap.objs.size + 1) scope.names (cloFrom X.env.cells scope.names [])) (X.env.qual ++ "<genexpr>.") none code none builtinsNs)))) :=
      AllBare.push I3.bare rfl
    generalize hs5 : ({ s3 with gens := s3.gens.push (.fresh (.compStart (.GeneratorExp elt [⟨tg, iter, ifs, 0⟩] scope gpos) 0 (.ref it) .none (newEnv scope s3.heap.objs.size X.env.globals (cellsFrom (s3.heap.objs.size + 1) scope.names (cloFrom X.env.cells scope.names [])) (X.env.qual ++ "<genexpr>.") none code none builtinsNs))), toks := tk, heap := h'.push go } : Shared) = s5
    have h5h : s5.heap = h'.push go := by rw [← hs5]
    have h5g : s5.gens = s3.gens.push (.fresh (.compStart (.GeneratorExp elt [⟨tg, iter, ifs, 0⟩] scope gpos) 0 (.ref it) .none (newEnv scope s3.heap.objs.size X.env.globals (cellsFrom (s3.heap.objs.size + 1) scope.names (cloFrom X.env.cells scope.names [])) (X.env.qual ++ "<genexpr>.") none code none builtinsNs))) := by rw [← hs5]
    have h5o : s5.os = s3.os := by rw [← hs5]
    have I5 : Inv X pins σ H2 s5 := I3.call' (ch := []) h5o (Un.kept (by rw [h5h]; exact kp5)) (I3.hok.kept (by rw [h5h]; exact kp5)) (by rw [h5g]; exact hbare5) fun b z => by simp at z
    have hgen : ∀ h : Heap, h.get? h'.objs.size = some go → h.IsGen h'.objs.size s3.gens.size := fun h e => ⟨go, nm, qn, e, by rw [← hgo], by rw [← hgo], by rw [← hgo]⟩
    have apt5 : ∀ b, s5.heap.objs.size ≤ b → Apt X pins b := fun b hb => by
      obtain ⟨q0, q1, q2, q3, q4, q5⟩ := I5.fpOk hb (I5.hok.fresh hb)
      exact ⟨Nat.le_trans I5.sz hb, q1, q2, q4, q5⟩
    refine hQ J H1 H2 code h'.objs.size s2 s5 I2 hR hts ⟨I5, s3.gens.size, hgen _ (by rw [h5h]; exact hgp), apt5, ?_⟩
    intro A Ss φ W Yl Dn gt tt te m n s6 hA hAf hφ hSs k56 os56 g56 hφ0 pg pt pe turn w hm
    have I6 : Inv X pins σ H2 s6 := I5.call' (ch := []) os56 (Un.kept k56) (I5.hok.kept k56) (by rw [g56]; exact I5.bare) fun b z => by simp at z
    have sz5 : s5.heap.objs.size = h'.objs.size + 1 := by rw [h5h]; exact hgsz
    have ySs : ∀ b ∈ Ss, h'.objs.size < b := fun b hb => by have := (hSs b hb).1; omega
    have own6 : ∀ b ∈ Ss, H2 b = none ∧ ∃ o, s6.heap.get? b = some o ∧ ∀ v, o.data ≠ .cell v := fun b hb => ⟨I5.hok.fresh (hSs b hb).1, (hSs b hb).2⟩
    -- the generator's frame
    have J0 := fun (tk : Nat) => gen_start (tk := tk) (A := A) (code := code) I3 hA hAf ok hN h0 f3 rfl hns hsb
    generalize hce : gEnv scope (cellsFrom (s3.heap.objs.size + 1) scope.names (cloFrom X.env.cells scope.names [])) s3.heap.objs.size code X = ce at J0
    have ceL : ce.locals = s3.heap.objs.size := by rw [← hce]; rfl
    have ceC : ce.cells = cellsFrom (s3.heap.objs.size + 1) scope.names (cloFrom X.env.cells scope.names []) := by rw [← hce]; rfl
    have aptg : ∀ b, h'.objs.size ≤ b → ∀ pl : List (Addr × Obj), (∀ p ∈ pl, p.1 ≠ b) → Apt (gcx X A s3 H2 scope ce fp) pl b := fun b hb pl hpl => by
      refine ⟨Nat.le_trans (Nat.le_of_lt lt1) hb, ?_, fun z => ?_, fun x c e z => ?_, fun p hp => hpl p hp⟩
      · show b ≠ ce.locals
        rw [ceL]
        exact Nat.ne_of_gt (Nat.lt_of_lt_of_le lt1 hb)
      · have z : b ∈ frs X.stack := z
        rcases List.mem_cons.mp (I3.stkSub b z) with z | z
        · have := I3.lt
          rw [← z] at this
          exact absurd (Nat.lt_of_lt_of_le (Nat.lt_trans this lt1) hb) (Nat.lt_irrefl _)
        · exact I3.nofs (Nat.le_trans (Nat.le_of_lt lt1) hb) z
      · have e : ce.cells.lookup x = some c := e
        rw [ceC] at e
        have := cellsLt x c e
        rw [z] at this
        exact absurd (Nat.lt_of_lt_of_le this hb) (Nat.lt_irrefl _)
    have R : GRun X pins σ Ss φ h'.objs.size go s3.gens.size A s3 H2 scope ce fp it tn J tg := by
      refine ⟨hA, I3, f3, T, by rw [← hce]; exact hco, fun b hb => apt5 b (hSs b hb).1, fun b hb => aptg b (Nat.le_of_lt (ySs b hb)) _ fun p hp => ?_, fun b hb z => ?_, fun z => ?_, hgen, hφ⟩
      · rw [List.mem_singleton.mp hp]
        exact Nat.ne_of_lt (ySs b hb)
      · have h1 := (f3 b z).2
        have h2 := ySs b hb
        exact absurd (Nat.lt_trans h1 (Nat.lt_trans lt1 h2)) (Nat.lt_irrefl _)
      · exact absurd (Nat.lt_trans (f3 _ z).2 lt1) (Nat.lt_irrefl _)
    have hea : s6.heap.get? h'.objs.size = some go := k56 _ _ (by rw [h5h]; exact hgp)
    have hgl : s3.gens.size < s6.gens.size := by rw [g56, h5g, Array.size_push]; exact Nat.lt_succ_self _
    have hgs : s6.gens[s3.gens.size]? = some (.fresh (.compStart (.GeneratorExp elt [⟨tg, iter, ifs, 0⟩] scope gpos) 0 (.ref it) .none ce)) := by
      rw [g56, h5g, ← hce]
      exact Array.getElem?_push_size ..
    have hgd : ∀ v, go.data ≠ .cell v := fun v q => by rw [← hgo] at q; cases q
    refine ⟨hgen _ hea, I6, own6, .nil, w, hm, hφ0, _, hgs, rfl, ?_⟩
    have pg' := pg s3 (cellsFrom (s3.heap.objs.size + 1) scope.names (cloFrom X.env.cells scope.names [])) s3.heap.objs.size fp
    have pt' := pt s3 (cellsFrom (s3.heap.objs.size + 1) scope.names (cloFrom X.env.cells scope.names [])) s3.heap.objs.size fp
    have pe' := pe s3 (cellsFrom (s3.heap.objs.size + 1) scope.names (cloFrom X.env.cells scope.names [])) s3.heap.objs.size fp
    rw [hce] at pg' pt' pe'
    have kj : ∀ b o, h'.get? b = some o → (s6.setGen s3.gens.size .running).heap.get? b = some o := fun b o e => k56 b o (by rw [h5h]; exact Heap.get?_push_of_some _ e)
    have I7 : Inv (gcx X A s3 H2 scope ce fp) [] (wipe σ (own.map (·.2))) H2 (s6.setGen s3.gens.size .running) :=
      (J0 tk).call' (ch := []) (os56.trans h5o) (Un.kept kj) ((J0 tk).hok.kept kj) (bare_set I6.bare rfl) fun b z => by simp at z
    have I8 : Inv (gcx X A s3 H2 scope ce fp) ([(h'.objs.size, go)] ++ pinsAt Ss (s6.setGen s3.gens.size .running).heap) (wipe σ (own.map (·.2))) H2 (s6.setGen s3.gens.size .running) := by
      have I8a : Inv (gcx X A s3 H2 scope ce fp) [(h'.objs.size, go)] (wipe σ (own.map (·.2))) H2 (s6.setGen s3.gens.size .running) := I7.pins_of fun p hp => by
        rw [List.mem_singleton.mp hp]
        obtain ⟨q1, q2, q3, q4, q5⟩ := aptg h'.objs.size (Nat.le_refl _) [] fun p hp => by cases hp
        exact ⟨hea, I3.hok.fresh (Nat.le_of_lt lt1), q2, q3, hgd⟩
      exact I8a.pinned (fun b hb => (R.sg b hb).fp (own6 b hb).1) fun b hb => (own6 b hb).2
    have nP : ∀ b ∈ fp, b ≠ P := fun b hb z => by
      have q := (f2 b hb).1
      rw [z, hP] at q
      cases q
    have st6 : tn 0 (s6.setGen s3.gens.size .running).heap := T.keep _ _ _ st2 fun b hb o e => k56 b o (by rw [h5h]; exact kp5 b o (k3 b o (nP b hb) e))
    exact seg_first R pg' pt' pe' turn m n _ _ H2 I8 st6 (fun b hb => (f3 b hb).1.1) hφ0 own6 w hm (fun _ _ _ e => e)
  cases hf : codeAmong gpos ps.toList with
  | some cv =>
    refine wpAny_genexprCode_hit hcode (cd.code hPs ht) hf ?_
    exact cont cv H1 s2 I2 (.inl ⟨ps, hP, hf, rfl⟩) (fun _ _ _ e => e) (Nat.le_refl _) fun _ _ _ => rfl
  | none =>
    refine wpAny_genexprCodeX hcode (cd.code hPs ht) (cd.tab hPs) hf fun c' h' tk hx hge hlt hco' _ htab' hnew => ?_
    obtain ⟨P', hP'ge, hc2, ht2⟩ := hnew
    have htr : TriplesOk (ps ++ #[rawInt gpos.line, rawInt gpos.col, Value.ref c']).toList := by
      obtain ⟨o1, vs, f1, tf, fl, tg, inF, tx, tt, op, _, _, _, _, _, _, _, _, _, htr, _⟩ := hco'
      exact htr
    have Ia := GxR.inv_tab (more := #[rawInt gpos.line, rawInt gpos.col, Value.ref c']) (h' := h') (g' := s2.gens) (d' := s2.drawn) (t' := tk) I2 hP hx htab'.2 I2.bare
    obtain ⟨o, ho, hcO⟩ := CodeO.of (PySem.W.CodeHd.of hc2 ht2)
    have hcP' : c' ≠ P' := by obtain ⟨_, _, _, _, _, _, _, _, _, _, _, _, _, _, _, z⟩ := hcO; exact z.2
    have hcPn : c' ≠ P := Nat.ne_of_gt (Nat.lt_of_lt_of_le hPlt hge)
    have hP'P : P' ≠ P := Nat.ne_of_gt (Nat.lt_of_lt_of_le hPlt hP'ge)
    have n1 : H1 c' = none := I2.hok.fresh hge
    have n2 : H1 P' = none := I2.hok.fresh hP'ge
    have Ib := inv_seen (b := P') (o := .tbl #[]) Ia (I2.fpOk hP'ge (by rw [upd_ne hP'P]; exact n2)) (Nat.le_trans I2.sz hP'ge) ht2.2
    have Ic := inv_seen (b := c') (o := .frz o anyU) Ib (I2.fpOk hge (by rw [upd_ne hcP', upd_ne hcPn]; exact n1)) (Nat.le_trans I2.sz hge) ⟨ho, trivial, ⟨o, ho⟩, fun _ _ _ _ => trivial⟩
    refine cont (.ref c') _ _ Ic (.inr ⟨ps, c', P', o, hP, ht, hf, rfl, n1, n2, hcP', hcPn, hP'P, hcO, rfl⟩) (fun b ob hb e => hx b ob hb e) (Nat.le_trans hge (Nat.le_of_lt hlt)) fun b hb hbP => ?_
    rw [upd_ne (Nat.ne_of_lt (Nat.lt_of_lt_of_le hb hge)), upd_ne (Nat.ne_of_lt (Nat.lt_of_lt_of_le hb hP'ge)), upd_ne hbP]
end GX

set_option maxHeartbeats 2000000
/-! Y5: what consumes a generator expression: any, all, tuple, sum, sorted. -/
namespace GX
open PySem PySem.Spec PyProof.Rows L2 GenW
open Sem (wp)

/-- the same context with another around -/
theorem inv_at {X : Cx} {A : Around} {pins : List (Addr × Obj)} {σ : L2.St} {H : Hp} {s : Shared} (I : Inv X pins σ H s) (h1 : A.handled = none) (h2 : A.frames = some X.stack) : Inv { X with A := A } pins σ H s :=
  ⟨⟨I.ok.mod, I.ok.kind, I.ok.glob, I.ok.blt, I.ok.above, I.ok.inj, I.ok.has, I.ok.cab, fun _ => h1, h2, I.ok.stk, I.ok.exf, I.ok.bs, I.ok.bsz, I.ok.noex, I.ok.exfs, I.ok.funs, I.ok.frf⟩, I.os, I.bare, I.base, I.loc, I.cell, I.free, I.freeC, I.pin, I.hok, I.len⟩
theorem inv_at' {X : Cx} {A : Around} {pins : List (Addr × Obj)} {σ : L2.St} {H : Hp} {s : Shared} (I : Inv { X with A := A } pins σ H s) (h1 : X.calm = true → X.A.handled = none) (h2 : X.A.frames = some X.stack) : Inv X pins σ H s :=
  ⟨⟨I.ok.mod, I.ok.kind, I.ok.glob, I.ok.blt, I.ok.above, I.ok.inj, I.ok.has, I.ok.cab, h1, h2, I.ok.stk, I.ok.exf, I.ok.bs, I.ok.bsz, I.ok.noex, I.ok.exfs, I.ok.funs, I.ok.frf⟩, I.os, I.bare, I.base, I.loc, I.cell, I.free, I.freeC, I.pin, I.hok, I.len⟩
/-- truth of a value, under any around -/
theorem tru_at {X : Cx} {A : Around} {pins : List (Addr × Obj)} {σ : L2.St} {H : Hp} {s : Shared} {x : V} {v : Value} {k : Bool} {Q : Bool → Shared → Prop} {E : Value → Shared → Prop} (I : Inv X pins σ H s) (rx : RelV x v) (e : TruV X.K x H k)
    (h : ∀ t, Q k { s with toks := t }) : wpAny (model X.prog X.w) A (truthy v) Q E s := by
  have hl := line63
  have hs : sizeLine = 16777216 := sizeLine_eq
  have q : Q k s := h s.toks
  cases x with
  | non =>
    cases rx
    have e' : k = false := e
    subst e'
    exact truthy_none q
  | bl b =>
    cases rx
    have e' : k = b := e
    subst e'
    exact wpAny_truthy_bool q
  | int i =>
    obtain ⟨t, rfl⟩ := rx
    have e' : k = (i != 0) := e
    subst e'
    exact PySem.P.truthy_int q
  | str y =>
    obtain ⟨t, rfl⟩ := rx
    obtain ⟨hy, e'⟩ : y.length ≤ sizeLine ∧ k = ((y.length : Int) != 0) := e
    subst e'
    exact PySem.P.truthy_str (by omega) (h _)
  | byt y =>
    obtain ⟨t, rfl⟩ := rx
    obtain ⟨hy, e'⟩ : y.size ≤ sizeLine ∧ k = ((y.size : Int) != 0) := e
    subst e'
    exact PySem.W.truthy_bytes (by omega) (h _)
  | ref p =>
    cases rx
    have e' : (∃ xs, SqL X.K H p xs ∧ k = !xs.isEmpty) ∨ (∃ xs, SqT X.K H p xs ∧ k = !xs.isEmpty) ∨ ∃ kvs, H p = some (.dK kvs) ∧ k = !kvs.isEmpty := e
    rcases e' with ⟨xs, hx, e'⟩ | ⟨xs, hx, e'⟩ | ⟨kvs, hx, e'⟩
    · subst e'
      obtain ⟨its, r, pl, hz⟩ := I.list hx
      have hlen := r.length
      exact wpAny_truthy_list pl.isList (by simp only [List.size_toArray]; omega) (by rw [isEmpty_of r]; exact h _)
    · subst e'
      obtain ⟨its, r, pl, hz⟩ := I.tuple hx
      have hlen := r.length
      exact truthy_tuple pl (by simp only [List.size_toArray]; omega) (by rw [isEmpty_of r]; exact h _)
    · subst e'
      obtain ⟨hz, hS, vs, r, m⟩ : kvs.length ≤ sizeLine ∧ (p == sysModules) = false ∧ ∃ vs, KV kvs vs ∧ s.heap.DictOf (mixKind X.prog X.w) p vs := I.hok p _ hx
      have hlen : kvs.length = vs.length := Paired.length r
      exact wpAny_truthy_dict hS m (by omega) (by rw [isEmpty_kv r]; exact h _)
  | _ => exact (show False from e).elim

section
variable {X : Cx} {pins : List (Addr × Obj)} {σ : L2.St} {a : Addr} {g : Nat} {W : Nat → Nat → List V → Hp → Prop}
abbrev noφ : List Value → Heap → Prop := fun _ _ => True
/-- any, all: stop is the truth that ends the walk -/
def YAny (X : Cx) (pins : List (Addr × Obj)) (σ : L2.St) (stop : Bool) (Q : Value → Shared → Prop) (W : Nat → Nat → List V → Hp → Prop) : Nat → Nat → List V → V → Hp → Prop := fun m i acc y H => ∃ k, TruV X.K y H k ∧
  if k = stop then (∀ s', Inv X pins σ H s' → Q (.bool stop) s') else ∃ m', m' < m ∧ W m' (i + 1) (acc ++ [y]) H
def DAny (X : Cx) (pins : List (Addr × Obj)) (σ : L2.St) (stop : Bool) (Q : Value → Shared → Prop) : List V → Hp → Prop := fun _ H => ∀ s', Inv X pins σ H s' → Q (.bool (!stop)) s'
theorem any_loop {A : Around} {Q E : Value → Shared → Prop} (hh : A.handled = none) (hd : A.depth < recursionLimit) :
    ∀ (n m i : Nat) (acc : List V) (us : List Value) (H : Hp) (s : Shared), GSt X pins σ [] noφ a g W (YAny X pins σ true Q W) (DAny X pins σ true Q) A.in1.in1 n m i acc us H s →
      codeAny (model X.prog X.w) A (.builtin "any.loop" ⟨[.ref a], []⟩) (wants Q E) s := by
  intro n
  induction n with
  | zero => intro m i acc us H s G; exact absurd G.le (Nat.not_lt_zero _)
  | succ n ih =>
    intro m i acc us H s G
    refine codeAny_builtin F.entry_any_loop ?_
    rw [Around.under_plainId F.plain_any_loop _]
    show wpAny _ A.in1 (pyNext (.ref a) >>= _) _ _ s
    refine wpAny_bind (GSt.next hh hd (fun _ _ _ _ _ => trivial) (fun b hb => by cases hb) (by simp) G (fun v s' n' m i acc us y H' hn _ rv _ I r _ yl hk => ?_) fun s' acc us H' _ _ _ I _ dn => ?_)
    · obtain ⟨k, ht, yl⟩ := yl
      refine wpAny_bind (wpAny_holding (tru_at I r ht fun t => ?_))
      refine wpAny_bind (wpAny_letGo ?_)
      have I2 : Inv X pins σ H' { s' with toks := t } := I.tok t
      cases k with
      | true =>
        simp only [if_true] at yl ⊢
        refine wpAny_bind (wpAny_rule (wpAny_pure ?_))
        exact yl _ I2
      | false =>
        simp only [Bool.false_eq_true, if_false] at yl ⊢
        obtain ⟨m', hm, w⟩ := yl
        cases Nat.succ.inj hn
        refine wpAny_pure ⟨plainId_quiet F.plain_any_loop _, ih m' (i + 1) (acc ++ [y]) (us ++ [v]) H' _ (hk { s' with toks := t } ⟨rfl, I.bare, fun b o _ e => e, fun b hb => by cases hb⟩ rfl trivial m' hm w)⟩
    · refine wpAny_bind (wpAny_rule (wpAny_pure ?_))
      exact dn s' I
theorem all_loop {A : Around} {Q E : Value → Shared → Prop} (hh : A.handled = none) (hd : A.depth < recursionLimit) :
    ∀ (n m i : Nat) (acc : List V) (us : List Value) (H : Hp) (s : Shared), GSt X pins σ [] noφ a g W (YAny X pins σ false Q W) (DAny X pins σ false Q) A.in1.in1 n m i acc us H s →
      codeAny (model X.prog X.w) A (.builtin "all.loop" ⟨[.ref a], []⟩) (wants Q E) s := by
  intro n
  induction n with
  | zero => intro m i acc us H s G; exact absurd G.le (Nat.not_lt_zero _)
  | succ n ih =>
    intro m i acc us H s G
    refine codeAny_builtin F.entry_all_loop ?_
    rw [Around.under_plainId F.plain_all_loop _]
    show wpAny _ A.in1 (pyNext (.ref a) >>= _) _ _ s
    refine wpAny_bind (GSt.next hh hd (fun _ _ _ _ _ => trivial) (fun b hb => by cases hb) (by simp) G (fun v s' n' m i acc us y H' hn _ rv _ I r _ yl hk => ?_) fun s' acc us H' _ _ _ I _ dn => ?_)
    · obtain ⟨k, ht, yl⟩ := yl
      refine wpAny_bind (wpAny_holding (tru_at I r ht fun t => ?_))
      refine wpAny_bind (wpAny_letGo ?_)
      have I2 : Inv X pins σ H' { s' with toks := t } := I.tok t
      cases k with
      | false =>
        simp only [if_true] at yl
        simp only [Bool.false_eq_true, if_false]
        refine wpAny_bind (wpAny_rule (wpAny_pure ?_))
        exact yl _ I2
      | true =>
        simp only [Bool.true_eq_false, if_false] at yl
        simp only [if_true]
        obtain ⟨m', hm, w⟩ := yl
        cases Nat.succ.inj hn
        refine wpAny_pure ⟨plainId_quiet F.plain_all_loop _, ih m' (i + 1) (acc ++ [y]) (us ++ [v]) H' _ (hk { s' with toks := t } ⟨rfl, I.bare, fun b o _ e => e, fun b hb => by cases hb⟩ rfl trivial m' hm w)⟩
    · refine wpAny_bind (wpAny_rule (wpAny_pure ?_))
      exact dn s' I
theorem call_any {A : Around} {Q E : Value → Shared → Prop} (hh : A.handled = none) (hd : A.depth < recursionLimit) {n m i : Nat} {acc : List V} {us : List Value} {H : Hp} {s : Shared} (G : GSt X pins σ [] noφ a g W (YAny X pins σ true Q W) (DAny X pins σ true Q) A.in1.in1 n m i acc us H s) :
    wpAny (model X.prog X.w) A (call (.builtin "any") [.ref a]) Q E s := by
  refine call_function_tree F.kind_any F.plain_any F.entry_any (F.args_any1 _) ?_
  unfold Builtin.«any»
  refine wpAny_bind (m := oneArg "any" _) (wpAny_pure ?_)
  refine wpAny_bind (wpAny_pyIter_gen G.gen ?_)
  exact wpAny_pure ⟨plainId_quiet F.plain_any_loop _, any_loop hh hd n m i acc us H s G⟩
theorem call_all {A : Around} {Q E : Value → Shared → Prop} (hh : A.handled = none) (hd : A.depth < recursionLimit) {n m i : Nat} {acc : List V} {us : List Value} {H : Hp} {s : Shared} (G : GSt X pins σ [] noφ a g W (YAny X pins σ false Q W) (DAny X pins σ false Q) A.in1.in1 n m i acc us H s) :
    wpAny (model X.prog X.w) A (call (.builtin "all") [.ref a]) Q E s := by
  refine call_function_tree F.kind_all F.plain_all F.entry_all (F.args_all1 _) ?_
  unfold Builtin.«all»
  refine wpAny_bind (m := oneArg "all" _) (wpAny_pure ?_)
  refine wpAny_bind (wpAny_pyIter_gen G.gen ?_)
  exact wpAny_pure ⟨plainId_quiet F.plain_all_loop _, all_loop hh hd n m i acc us H s G⟩

/-! ### collected into a list: tuple, sorted, list -/
/-- S holds what has come so far -/
abbrev lstφ (S : Addr) : List Value → Heap → Prop := fun us h => ∃ c, h.get? S = some { cls := .type "list", dict := none, data := .seq us.toArray c, slots := #[] }
theorem lstφ_keep (S : Addr) (us : List Value) (h h' : Heap) (k : ∀ b ∈ [S], ∀ o, h.get? b = some o → h'.get? b = some o) (x : lstφ S us h) : lstφ S us h' := let ⟨c, e⟩ := x; ⟨c, k S (by simp) _ e⟩
/-- each item comes to the lot -/
def YCol (W : Nat → Nat → List V → Hp → Prop) : Nat → Nat → List V → V → Hp → Prop := fun m i acc y H => acc.length < sizeLine ∧ ∃ m', m' < m ∧ W m' (i + 1) (acc ++ [y]) H
theorem extend_loop {A : Around} {S : Addr} {res : Value} {Dn : List V → Hp → Prop} {R : Result → Shared → Prop} (hh : A.handled = none) (hd : A.depth < recursionLimit) (hS : Apt X pins S) (haS : a ≠ S)
    (hR : ∀ s' acc us H' c, Vals acc us → Inv X pins σ H' s' → H' S = none → s'.heap.get? S = some { cls := .type "list", dict := none, data := .seq us.toArray c, slots := #[] } → Dn acc H' → R (.ok (.ret res)) s') :
    ∀ (n m i : Nat) (acc : List V) (us : List Value) (H : Hp) (s : Shared), GSt X pins σ [S] (lstφ S) a g W (YCol W) Dn A.in1.in1 n m i acc us H s →
      codeAny (model X.prog X.w) A (.builtin "list.extend.loop" ⟨[.ref S, .ref a, res], []⟩) R s := by
  intro n
  induction n with
  | zero => intro m i acc us H s G; exact absurd G.le (Nat.not_lt_zero _)
  | succ n ih =>
    intro m i acc us H s G
    refine codeAny_builtin F.entry_extend_loop ?_
    rw [Around.under_plainId F.plain_extend_loop _]
    show wpAny _ A.in1 (pyNext (.ref a) >>= _) _ _ s
    refine wpAny_bind (GSt.next hh hd (lstφ_keep S) (fun b hb => by rw [List.mem_singleton.mp hb]; exact hS) (by simpa using haS) G (fun v s' n' m i acc us y H' hn _ rv φ' I r own yl hk => ?_) fun s' acc us H' _ rv φ' I own dn => ?_)
    · obtain ⟨hz, m', hm, w⟩ := yl
      obtain ⟨c, hS'⟩ := φ'
      have hl := rv.length
      cases Nat.succ.inj hn
      show wpAny _ A.in1 (updateSeq S (·.push v) >>= _) _ _ _
      refine wpAny_bind ?_
      refine wpAny_updateSeq hS' rfl (wpAny_pure ⟨plainId_quiet F.plain_extend_loop _, ih m' (i + 1) (acc ++ [y]) (us ++ [v]) H' _ (hk { s' with heap := s'.heap.update S (Obj.mapSeq fun x => x.push v) } ⟨rfl, I.bare, fun b o hb e => ?_, fun b hb => ?_⟩ rfl ?_ m' hm w)⟩) (by rw [List.size_toArray]; omega) (by show (us.toArray.push v).size ≤ sizeLine + 1; rw [Array.size_push, List.size_toArray]; omega)
      · exact (Heap.get?_update_other _ _ (fun h : S = b => hb (by simp [h]))).trans e
      · rw [List.mem_singleton.mp hb]
        exact ⟨_, Heap.get?_update_self _ hS' rfl, fun v q => by cases q⟩
      · refine ⟨c + 1, ?_⟩
        have q := Heap.get?_update_self (Obj.mapSeq (·.push v)) hS' rfl
        rw [q]
        simp [Obj.mapSeq]
    · obtain ⟨c, hS'⟩ := φ'
      exact wpAny_pure (hR s' acc us H' c rv I (own S (by simp)).1 hS' dn)
end
end GX

set_option maxHeartbeats 2000000
/-! Y6: calls that consume a generator expression, from its making on. -/
namespace GX
open PySem PySem.Spec PyProof.Rows L2 GenW
open Sem (wp)
open AutoSeq1 (wpAny_loadPart')

/-- an around within X's -/
structure Near (X : Cx) (A : Around) : Prop where
  hd : A.handled = none
  fr : A.frames = some X.stack
  dp : A.depth = X.A.depth
  un : A.units ≤ X.A.units + 10
theorem Near.in1 {X : Cx} {A : Around} (x : Near X A) (h : A.units + 1 ≤ X.A.units + 10) : Near X A.in1 := ⟨x.hd, x.fr, x.dp, h⟩
/-- the readings of the parts, wherever the frame runs -/
structure Parts (X : Cx) (H2 : Hp) (code : Value) (scope : Scope) (tg elt : Expr) (ifs : List Expr) (gt : TG) (tt : TT) (te : TE) : Prop where
  g : ∀ (A : Around) (s : Shared) (cl : List (Str × Addr)) (C : Addr) (fp : List Addr), Near X A → PG (gcx X A s H2 scope (gEnv scope cl C code X) fp) tg gt
  t : ∀ (A : Around) (s : Shared) (cl : List (Str × Addr)) (C : Addr) (fp : List Addr), Near X A → PTs (gcx X A s H2 scope (gEnv scope cl C code X) fp) ifs tt
  e : ∀ (A : Around) (s : Shared) (cl : List (Str × Addr)) (C : Addr) (fp : List Addr), Near X A → PE (gcx X A s H2 scope (gEnv scope cl C code X) fp) elt te
section
variable {X : Cx} {pins : List (Addr × Obj)} {σ : L2.St} {H2 : Hp} {code : Value} {scope : Scope} {own : List (Str × Nat)} {elt tg iter : Expr} {ifs : List Expr} {pos : Pos} {J : It} {a : Addr} {s5 : Shared}
  {W : Nat → Nat → List V → Hp → Prop} {Dn : List V → Hp → Prop} {gt : TG} {tt : TT} {te : TE} {m : Nat}
theorem any_gen {A : Around} {Q E : Value → Shared → Prop} (hA : Near X A) (hu : A.units + 2 ≤ X.A.units + 10) (hd : A.depth < recursionLimit) (M : Made X pins σ H2 code scope own elt tg iter ifs pos J a s5) (P : Parts X H2 code scope tg elt ifs gt tt te)
    (turn : TurnQ J gt tt te (own.map (·.2)) σ W (YAny X pins σ true Q W) (DAny X pins σ true Q)) (w : W m 0 [] H2) : wpAny (model X.prog X.w) A (call (.builtin "any") [.ref a]) Q E s5 := by
  obtain ⟨I, g, hg, apt, mk⟩ := M
  have h2 : Near X A.in1.in1 := (hA.in1 (by omega)).in1 (by show A.units + 1 + 1 ≤ _; omega)
  exact call_any hA.hd hd (mk A.in1.in1 [] noφ W _ _ gt tt te m (m + 1) s5 h2.hd h2.fr (fun _ _ _ _ _ => trivial) (fun b hb => by cases hb) (fun _ _ e => e) rfl rfl trivial (fun s cl C fp => P.g _ s cl C fp h2) (fun s cl C fp => P.t _ s cl C fp h2) (fun s cl C fp => P.e _ s cl C fp h2) turn w (Nat.lt_succ_self m))
theorem all_gen {A : Around} {Q E : Value → Shared → Prop} (hA : Near X A) (hu : A.units + 2 ≤ X.A.units + 10) (hd : A.depth < recursionLimit) (M : Made X pins σ H2 code scope own elt tg iter ifs pos J a s5) (P : Parts X H2 code scope tg elt ifs gt tt te)
    (turn : TurnQ J gt tt te (own.map (·.2)) σ W (YAny X pins σ false Q W) (DAny X pins σ false Q)) (w : W m 0 [] H2) : wpAny (model X.prog X.w) A (call (.builtin "all") [.ref a]) Q E s5 := by
  obtain ⟨I, g, hg, apt, mk⟩ := M
  have h2 : Near X A.in1.in1 := (hA.in1 (by omega)).in1 (by show A.units + 1 + 1 ≤ _; omega)
  exact call_all hA.hd hd (mk A.in1.in1 [] noφ W _ _ gt tt te m (m + 1) s5 h2.hd h2.fr (fun _ _ _ _ _ => trivial) (fun b hb => by cases hb) (fun _ _ e => e) rfl rfl trivial (fun s cl C fp => P.g _ s cl C fp h2) (fun s cl C fp => P.t _ s cl C fp h2) (fun s cl C fp => P.e _ s cl C fp h2) turn w (Nat.lt_succ_self m))
theorem collect_gen {A : Around} {Q : List Value → Shared → Prop} {E : Value → Shared → Prop} (hA : Near X A) (hu : A.units + 2 ≤ X.A.units + 10) (hd : A.depth < recursionLimit) (M : Made X pins σ H2 code scope own elt tg iter ifs pos J a s5) (P : Parts X H2 code scope tg elt ifs gt tt te)
    (turn : TurnQ J gt tt te (own.map (·.2)) σ W (YCol W) Dn) (w : W m 0 [] H2) (hQ : ∀ s' acc us H', Vals acc us → Inv X pins σ H' s' → Dn acc H' → Q us s') : wpAny (model X.prog X.w) A (collect (.ref a)) Q E s5 := by
  obtain ⟨I, g, hg, apt, mk⟩ := M
  have h2 : Near X A.in1.in1 := (hA.in1 (by omega)).in1 (by show A.units + 1 + 1 ≤ _; omega)
  have hT : s5.TypeIs (.ref a) "generator" := hg.typeIs
  have halt : a < s5.heap.objs.size := by obtain ⟨o, _, _, e, _⟩ := hg; exact Heap.lt_size e
  have hSI : s5.heap.objs.size ≠ a := Nat.ne_of_gt halt
  unfold collect
  refine wpAny_bind (wpAny_runValue (codeAny_builtin F.entry_proto_collect ?_))
  rw [Around.under_plainId F.plain_proto_collect _]
  show wpAny _ A.in1 (newList [] >>= fun l => again (.builtin "list.__iadd__" ⟨[l, .ref a], []⟩)) _ _ s5
  refine wpAny_bind (wpAny_newObj_type ?_)
  refine wpAny_pure ⟨plainId_quiet F.plain_list_iadd _, codeAny_builtin F.entry_list_iadd ?_⟩
  rw [Around.under_plainId F.plain_list_iadd _]
  have hg1 : (s5.heap.push { cls := .type "list", data := .seq ([] : List Value).toArray }).IsGen a g := by
    obtain ⟨o, nm, qn, e, r⟩ := hg
    exact ⟨o, nm, qn, Heap.get?_push_of_some _ e, r⟩
  have hT1 : ({ s5 with heap := s5.heap.push { cls := .type "list", data := .seq ([] : List Value).toArray } } : Shared).TypeIs (.ref a) "generator" := hg1.typeIs
  show wpAny _ A.in1 (Builtin.List.listExtendWith (.ref s5.heap.objs.size) (.ref a) (.ref s5.heap.objs.size)) _ _ _
  unfold Builtin.List.listExtendWith
  refine wpAny_bind (wpAny_typeOf hT1 ?_)
  have h1 : Builtin.List.listSameRef (.ref s5.heap.objs.size) (.ref a) = false := by simp [Builtin.List.listSameRef, hSI]
  have h2' : (Value.type "generator" == Value.type "list") = false := by decide
  have h3 : (Value.type "generator" == Value.type "tuple") = false := by decide
  simp only [h1, h2', h3, Bool.or_false, Bool.false_eq_true, if_false]
  refine wpAny_bind (wpAny_pyIter_gen hg1 ?_)
  refine wpAny_bind (wpAny_holding ?_)
  unfold Builtin.List.listLengthHint
  refine wpAny_bind (wpAny_specialOf hT1 F.gen_no_len ?_)
  show wpAny _ A.in1 (specialOf (Value.ref a) (Str.ofString "__length_hint__") >>= _) _ _ _
  refine wpAny_bind (wpAny_specialOf hT1 F.gen_no_hint ?_)
  refine wpAny_pure ?_
  show wpAny _ A.in1 (rule "list.extend.makes-room" >>= fun _ => Builtin.List.listTouch (.ref s5.heap.objs.size) >>= fun _ =>
    again (.builtin "list.extend.loop" ⟨[.ref s5.heap.objs.size, .ref a, .ref s5.heap.objs.size], []⟩)) _ _ _
  refine wpAny_bind (wpAny_rule ?_)
  have hS₁ : (s5.heap.push { cls := .type "list", data := .seq ([] : List Value).toArray }).get? s5.heap.objs.size = some { cls := .type "list", data := .seq ([] : List Value).toArray } := Heap.get?_push_size _ rfl
  refine wpAny_bind ?_
  show wpAny _ A.in1 (updateSeq s5.heap.objs.size (·.push .none) >>= fun _ => updateSeq s5.heap.objs.size (·.pop)) _ _ _
  refine wpAny_bind (wpAny_updateSeq hS₁ rfl ?_)
  have hS₂ := Heap.get?_update_self (Obj.mapSeq (·.push Value.none)) hS₁ rfl
  refine wpAny_updateSeq hS₂ rfl ?_
  have hS₃ := Heap.get?_update_self (Obj.mapSeq (·.pop)) hS₂ rfl
  have oth : ∀ b o, s5.heap.get? b = some o →
      (((s5.heap.push { cls := .type "list", data := .seq ([] : List Value).toArray }).update s5.heap.objs.size (Obj.mapSeq (·.push Value.none))).update s5.heap.objs.size (Obj.mapSeq (·.pop))).get? b = some o :=
    fun b o e => (Heap.get?_update_other _ _ (Nat.ne_of_gt (Heap.lt_size e))).trans ((Heap.get?_update_other _ _ (Nat.ne_of_gt (Heap.lt_size e))).trans (Heap.get?_push_of_some _ e))
  refine wpAny_pure ⟨plainId_quiet F.plain_extend_loop _, extend_loop (Dn := Dn) hA.hd hd (apt _ (Nat.le_refl _)) (Ne.symm hSI) (fun s' acc us H' c rv I' nS hS dn => ?_) (m + 1) m 0 [] [] H2 _
    (mk A.in1.in1 [s5.heap.objs.size] (lstφ s5.heap.objs.size) W _ _ gt tt te m (m + 1) { s5 with heap := ((s5.heap.push { cls := .type "list", data := .seq ([] : List Value).toArray }).update s5.heap.objs.size (Obj.mapSeq (·.push Value.none))).update s5.heap.objs.size (Obj.mapSeq (·.pop)) } h2.hd h2.fr (lstφ_keep _) (fun b hb => ?_) oth rfl rfl ?_
      (fun s cl C fp => P.g _ s cl C fp h2) (fun s cl C fp => P.t _ s cl C fp h2) (fun s cl C fp => P.e _ s cl C fp h2) turn w (Nat.lt_succ_self m))⟩
  · show wpAny _ A (load s5.heap.objs.size >>= _) _ _ s'
    refine wpAny_bind (wpAny_load hS ?_)
    refine wpAny_pure (hQ s' acc us H' rv I' dn)
  · rw [List.mem_singleton.mp hb]
    exact ⟨Nat.le_refl _, _, hS₃, fun v q => by cases q⟩
  · exact ⟨_, hS₃⟩
theorem code_tuple_new {A : Around} {Q₁ E : Value → Shared → Prop} (hA : Near X A) (hu : A.units + 3 ≤ X.A.units + 10) (hd : A.depth < recursionLimit) (M : Made X pins σ H2 code scope own elt tg iter ifs pos J a s5) (P : Parts X H2 code scope tg elt ifs gt tt te)
    (turn : TurnQ J gt tt te (own.map (·.2)) σ W (YCol W) Dn) (w : W m 0 [] H2) (hz : ∀ acc H, Dn acc H → acc.length ≤ sizeLine)
    (h : ∀ s' acc us H', Vals acc us → Inv X pins σ H' s' → Dn acc H' → Q₁ (.ref s'.heap.objs.size) { s' with heap := s'.heap.push { cls := .type "tuple", data := .seq us.toArray } }) :
    codeAny (model X.prog X.w) A (.call (.builtin "tuple.__new__") ⟨[.type "tuple", .ref a], []⟩) (wants Q₁ E) s5 := by
  refine codeAny_of_tree ?_
  show wpAny _ A.in1 (do checkBuiltinCall "tuple.__new__" ⟨[.type "tuple", .ref a], []⟩; again (.builtin "tuple.__new__" ⟨[.type "tuple", .ref a], []⟩)) _ _ s5
  refine wpAny_bind (wpAny_of_eq (F.newCall_tuple_1 _) (wpAny_pure ⟨plainId_quiet F.plain_tuple_new _, codeAny_builtin F.entry_tuple_new ?_⟩))
  rw [Around.under_plainId F.plain_tuple_new _]
  have hsub := sub_tuple_self
  have hinit := init_tuple_lookup
  have hmh := madeHere_tuple
  have hTI : s5.TypeIs (.ref a) "generator" := by obtain ⟨I, g, hg, _⟩ := M; exact hg.typeIs
  have hA1 : Near X A.in1 := hA.in1 (by omega)
  wp_walk using wpAny_typeOf hTI, collect_gen hA1 (by show A.units + 1 + 2 ≤ _; omega) hd M P turn w
  intro s' acc us H' rv I dn
  have hl := rv.length
  have hz' := hz acc H' dn
  show wpAny _ _ (Builtin.Tuple.tupleExact us.toArray >>= fun v => ret v) _ _ _
  unfold Builtin.Tuple.tupleExact
  refine wpAny_bind (wpAny_newObj_type ?_ (by show us.toArray.size ≤ sizeLine; rw [List.size_toArray]; omega))
  refine wpAny_pure ?_
  exact h s' acc us H' rv I dn
theorem tuple_gen {A : Around} {Q E : Value → Shared → Prop} (hA : Near X A) (hu : A.units + 4 ≤ X.A.units + 10) (hd : A.depth < recursionLimit) (M : Made X pins σ H2 code scope own elt tg iter ifs pos J a s5) (P : Parts X H2 code scope tg elt ifs gt tt te)
    (turn : TurnQ J gt tt te (own.map (·.2)) σ W (YCol W) Dn) (w : W m 0 [] H2) (hz : ∀ acc H, Dn acc H → acc.length ≤ sizeLine)
    (hQ : ∀ s' acc us H', Vals acc us → Inv X pins σ H' s' → Dn acc H' → Q (.ref s'.heap.objs.size) { s' with heap := s'.heap.push { cls := .type "tuple", data := .seq us.toArray } }) :
    wpAny (model X.prog X.w) A (call (.type "tuple") [.ref a]) Q E s5 := by
  refine callType_codes (Q₁ := fun obj s₁ => s₁.TypeIs obj "tuple" ∧ Q obj s₁) F.called_tuple (F.typeCall_tuple_1 _) F.entry_object_init
    (code_tuple_new (hA.in1 (by omega)) (by show A.units + 1 + 3 ≤ _; omega) hd M P turn w hz fun s' acc us H' rv I dn => ⟨⟨_, Heap.get?_push_size _ rfl, rfl⟩, hQ s' acc us H' rv I dn⟩) fun obj s₁ h₁ => ?_
  exact ⟨h₁.1, F.args_object_init_2 obj _, object_init_meets F.called_tuple.init.lookup F.called_tuple.made (by decide) _ _ A.in1 _ s₁ ⟨h₁.1, rfl, h₁.2⟩⟩
end
end GX

set_option maxHeartbeats 2000000
/-! Y7: sum, min, max of a generator expression. -/
namespace GX
open PySem PySem.Spec PyProof.Rows L2 GenW
open Sem (wp)

def intU : Value → Int
  | .int i _ => i
  | .bool b => if b then 1 else 0
  | _ => 0
def intV : V → Int
  | .int i => i
  | .bl b => if b then 1 else 0
  | _ => 0
def IsIntV : V → Prop
  | .int _ => True
  | .bl _ => True
  | _ => False
theorem intU_rel {x : V} {u : Value} (r : RelV x u) (h : IsIntV x) : intU u = intV x := by
  cases x with
  | int i => obtain ⟨t, rfl⟩ := r; rfl
  | bl b => cases r; rfl
  | _ => exact h.elim
def sumU (us : List Value) : Int := (us.map intU).sum
def sumV (xs : List V) : Int := (xs.map intV).sum
theorem sumU_snoc (us : List Value) (v : Value) : sumU (us ++ [v]) = sumU us + intU v := by simp [sumU]
theorem sumV_snoc (us : List V) (v : V) : sumV (us ++ [v]) = sumV us + intV v := by simp [sumV]
section
variable {X : Cx} {pins : List (Addr × Obj)} {σ : L2.St} {a : Addr} {g : Nat} {W : Nat → Nat → List V → Hp → Prop} {Dn : List V → Hp → Prop}
abbrev sumφ (S : Addr) : List Value → Heap → Prop := fun us h => ∃ t c, h.get? S = some { cls := .type "list", dict := none, data := .seq #[.int (sumU us) t] c, slots := #[] }
theorem sumφ_keep (S : Addr) (us : List Value) (h h' : Heap) (k : ∀ b ∈ [S], ∀ o, h.get? b = some o → h'.get? b = some o) (x : sumφ S us h) : sumφ S us h' := let ⟨t, c, e⟩ := x; ⟨t, c, k S (by simp) _ e⟩
/-- all ints, and none of the sums too long -/
def YSum (W : Nat → Nat → List V → Hp → Prop) : Nat → Nat → List V → V → Hp → Prop := fun m i acc y H => IsIntV y ∧ InLong (intV y) ∧ InLong (sumV (acc ++ [y])) ∧ (∀ x ∈ acc, IsIntV x) ∧ ∃ m', m' < m ∧ W m' (i + 1) (acc ++ [y]) H
theorem sum_eq : ∀ {acc : List V} {us : List Value}, Vals acc us → (∀ x ∈ acc, IsIntV x) → sumU us = sumV acc
  | _, _, .nil, _ => rfl
  | x :: xs, u :: us, .cons r t, h => by
    have ih := sum_eq t fun y hy => h y (List.mem_cons_of_mem _ hy)
    have e := intU_rel r (h x List.mem_cons_self)
    simp only [sumU, sumV, List.map_cons, List.sum_cons] at ih ⊢
    rw [ih, e]
theorem sum_loop {A : Around} {S : Addr} {R : Result → Shared → Prop} (hh : A.handled = none) (hd : A.depth < recursionLimit) (hS : Apt X pins S) (haS : a ≠ S)
    (hR : ∀ s' acc us H' t, Vals acc us → Inv X pins σ H' s' → H' S = none → Dn acc H' → R (.ok (.ret (.int (sumU us) t))) s') :
    ∀ (n m i : Nat) (acc : List V) (us : List Value) (H : Hp) (s : Shared), GSt X pins σ [S] (sumφ S) a g W (YSum W) Dn A.in1.in1 n m i acc us H s →
      codeAny (model X.prog X.w) A (.builtin "sum.loop" ⟨[.ref a, .ref S, rawInt 0, rawInt 0], []⟩) R s := by
  intro n
  induction n with
  | zero => intro m i acc us H s G; exact absurd G.le (Nat.not_lt_zero _)
  | succ n ih =>
    intro m i acc us H s G
    refine codeAny_builtin F.entry_sum_loop ?_
    rw [Around.under_plainId F.plain_sum_loop _]
    obtain ⟨tA, cA, hSs⟩ := G.phi
    show wpAny _ A.in1 (seqItems? (.ref S) >>= _) _ _ s
    refine wpAny_bind (wpAny_seqItems hSs rfl ?_)
    show wpAny _ A.in1 (tryCatch (pyNext (.ref a)) _ >>= _) _ _ s
    refine wpAny_bind (wpAny_tryCatch (GSt.next hh hd (sumφ_keep S) (fun b hb => by rw [List.mem_singleton.mp hb]; exact hS) (by simpa using haS) G (fun v s' n' m i acc us' y H' hn kp rv φ' I r own yl hk => ?_) fun s' acc us' H' kp rv φ' I own dn => ?_))
    · obtain ⟨hi, hl1, hl2, hacc, m', hm, w⟩ := yl
      obtain ⟨t', c', hS'⟩ := φ'
      have eS := kp S (by simp) _ hSs
      rw [hS'] at eS
      have e2 : sumU us' = sumU us := by
        have e1 := congrArg Obj.data (Option.some.inj eS)
        simp only [Data.seq.injEq] at e1
        have e3 := e1.1
        simp at e3
        exact e3.1
      have eu := intU_rel r hi
      have es := sum_eq rv hacc
      rw [sumV_snoc, ← es, ← eu] at hl2
      rw [← eu] at hl1
      cases Nat.succ.inj hn
      have hc : ∀ b : Int, b = intU v → ((decide (-(2 ^ 63) ≤ b) && decide (b < 2 ^ 63)) && (decide (-(2 ^ 63) ≤ sumU us + b) && decide (sumU us + b < 2 ^ 63))) = true := by
        rintro b rfl
        obtain ⟨f1, f2⟩ := hl1
        obtain ⟨f3, f4⟩ := hl2
        rw [e2] at f3 f4
        simp only [Bool.and_eq_true, decide_eq_true_eq]
        exact ⟨⟨f1, f2⟩, f3, f4⟩
      have key : ∀ b : Int, b = intU v → wpAny (model X.prog X.w) A.in1 (mkInt (sumU us + b) >>= fun total => updateSeq S (fun _ => #[total]) >>= fun _ => again (.builtin "sum.loop" ⟨[.ref a, .ref S, rawInt 0, rawInt 0], []⟩))
          (fun f s' => match f with | .done r => R (.ok r) s' | .again c => c.quiet = true ∧ codeAny (model X.prog X.w) A c R s') (fun e s' => R (.error e) s') s' := by
        rintro b rfl
        refine wpAny_bind (wpAny_mkInt ?_)
        refine wpAny_bind ?_
        refine wpAny_updateSeq hS' rfl (wpAny_pure ⟨plainId_quiet F.plain_sum_loop _, ih m' (i + 1) (acc ++ [y]) (us' ++ [v]) H' _ (hk { s' with heap := s'.heap.update S (Obj.mapSeq fun _ => #[.int (sumU us + intU v) s'.toks]), toks := s'.toks + 1 } ⟨rfl, I.bare, fun b o hb e => ?_, fun b hb => ?_⟩ rfl ?_ m' hm w)⟩)
        · exact (Heap.get?_update_other _ _ (fun h : S = b => hb (by simp [h]))).trans e
        · rw [List.mem_singleton.mp hb]
          exact ⟨_, Heap.get?_update_self _ hS' rfl, fun v q => by cases q⟩
        · have q := Heap.get?_update_self (Obj.mapSeq (fun _ => #[Value.int (sumU us + intU v) s'.toks])) hS' rfl
          rw [← e2, ← sumU_snoc] at q
          rw [← e2, ← sumU_snoc]
          exact ⟨s'.toks, _, q⟩
      cases y with
      | int j =>
        obtain ⟨t, rfl⟩ := r
        show wpAny _ A.in1 (if (_ : Bool) = true then (mkInt (sumU us + j) >>= _) else _) _ _ _
        split
        · exact key j rfl
        · rename_i hneg
          exact absurd (hc j rfl) hneg
      | bl bb =>
        cases r
        cases bb with
        | true =>
          show wpAny _ A.in1 (if (_ : Bool) = true then (mkInt (sumU us + 1) >>= _) else _) _ _ _
          split
          · split
            · exact key 1 rfl
            · rename_i hneg
              exact absurd (hc 1 rfl) hneg
          · rename_i hneg
            exact absurd rfl hneg
        | false =>
          show wpAny _ A.in1 (if (_ : Bool) = true then (mkInt (sumU us + 0) >>= _) else _) _ _ _
          split
          · rename_i hneg
            cases hneg
          · split
            · exact key 0 rfl
            · rename_i hneg
              exact absurd (hc 0 rfl) hneg
      | _ => exact hi.elim
    · obtain ⟨t', c', hS'⟩ := φ'
      have eS := kp S (by simp) _ hSs
      rw [hS'] at eS
      have e2 : sumU us' = sumU us := by
        have e1 := congrArg Obj.data (Option.some.inj eS)
        simp only [Data.seq.injEq] at e1
        have e3 := e1.1
        simp at e3
        exact e3.1
      have := hR s' acc us' H' tA rv I (own S (by simp)).1 dn
      rw [e2] at this
      exact wpAny_pure this
end
section
variable {X : Cx} {pins : List (Addr × Obj)} {σ : L2.St} {H2 : Hp} {code : Value} {scope : Scope} {own : List (Str × Nat)} {elt tg iter : Expr} {ifs : List Expr} {pos : Pos} {J : It} {a : Addr} {s5 : Shared}
  {W : Nat → Nat → List V → Hp → Prop} {Dn : List V → Hp → Prop} {gt : TG} {tt : TT} {te : TE} {m : Nat}
theorem sum_gen {A : Around} {Q E : Value → Shared → Prop} (hA : Near X A) (hu : A.units + 2 ≤ X.A.units + 10) (hd : A.depth < recursionLimit) (M : Made X pins σ H2 code scope own elt tg iter ifs pos J a s5) (P : Parts X H2 code scope tg elt ifs gt tt te)
    (turn : TurnQ J gt tt te (own.map (·.2)) σ W (YSum W) Dn) (w : W m 0 [] H2) (hQ : ∀ s' acc us H' t, Vals acc us → Inv X pins σ H' s' → Dn acc H' → Q (.int (sumU us) t) s') : wpAny (model X.prog X.w) A (call (.builtin "sum") [.ref a]) Q E s5 := by
  obtain ⟨I, g, hg, apt, mk⟩ := M
  have h2 : Near X A.in1.in1 := (hA.in1 (by omega)).in1 (by show A.units + 1 + 1 ≤ _; omega)
  have halt : a < s5.heap.objs.size := by obtain ⟨o, _, _, e, _⟩ := hg; exact Heap.lt_size e
  have hSI : s5.heap.objs.size ≠ a := Nat.ne_of_gt halt
  refine call_function_tree F.kind_sum F.plain_sum F.entry_sum (F.args_sum1 _) ?_
  unfold Builtin.«sum»
  simp only [List.length_cons, List.length_nil]
  rw [if_neg (by decide)]
  refine wpAny_bind (wpAny_of_eq (show Builtin.Builtins.bindParams "sum" ["start"] 0 { } = pure [none] from rfl) ?_)
  refine wpAny_bind (wpAny_pyIter_gen hg ?_)
  refine wpAny_bind (wpAny_mkInt ?_)
  refine wpAny_bind (wpAny_pure ?_)
  simp only [List.forIn_cons, List.forIn_nil]
  refine wpAny_bind (wpAny_bind (wpAny_bind (wpAny_isInstance (T := "int") (b := false) (typeIs_int _ _ _) PySem.sub_int_str ?_)))
  simp only [Bool.false_eq_true, if_false]
  refine wpAny_pure (wpAny_bind (wpAny_bind (wpAny_isInstance (T := "int") (b := false) (typeIs_int _ _ _) PySem.sub_int_bytes ?_)))
  simp only [Bool.false_eq_true, if_false]
  refine wpAny_pure (wpAny_bind (wpAny_bind (wpAny_isInstance (T := "int") (b := false) (typeIs_int _ _ _) PySem.sub_int_bytearray ?_)))
  simp only [Bool.false_eq_true, if_false]
  refine wpAny_pure (wpAny_pure ?_)
  refine wpAny_bind (wpAny_newObj_type ?_)
  refine wpAny_pure ⟨plainId_quiet F.plain_sum_loop _, sum_loop (Dn := Dn) hA.hd hd (apt _ (Nat.le_refl _)) (Ne.symm hSI) (fun s' acc us H' t rv I' nS dn => hQ s' acc us H' t rv I' dn) (m + 1) m 0 [] [] H2 _
    (mk A.in1.in1 [s5.heap.objs.size] (sumφ s5.heap.objs.size) W _ _ gt tt te m (m + 1) { s5 with heap := s5.heap.push { cls := .type "list", data := .seq #[.int 0 s5.toks] }, toks := s5.toks + 1 } h2.hd h2.fr (sumφ_keep _) (fun b hb => ?_) (fun b o e => Heap.get?_push_of_some _ e) rfl rfl ?_
      (fun s cl C fp => P.g _ s cl C fp h2) (fun s cl C fp => P.t _ s cl C fp h2) (fun s cl C fp => P.e _ s cl C fp h2) turn w (Nat.lt_succ_self m))⟩
  · rw [List.mem_singleton.mp hb]
    exact ⟨Nat.le_refl _, _, Heap.get?_push_size _ rfl, fun v q => by cases q⟩
  · exact ⟨s5.toks, 0, Heap.get?_push_size _ rfl⟩
end
end GX

set_option maxHeartbeats 2000000
/-! Y8: a tuple once, or not at all. -/
namespace L2
open PySem PySem.Spec PyProof.Rows
open Sem (wp)
theorem tuple_mul1 (l : Addr) (items : Array Value) (n : Nat) (dd : Option Addr) (sl : Array (Option Value)) (u : Tok) :
    Meets (Builtin.«tuple.__mul__» ⟨[.ref l, .int 1 u], []⟩) (fun _ R s => s.heap.get? l = some { cls := .type "tuple", dict := dd, data := .seq items n, slots := sl } ∧
      R (.ok (.ret (Value.ref l))) s) :=
  .of_wp fun prog w A R s h => by
    obtain ⟨hp, g, d, tk, os⟩ := s
    obtain ⟨hl, h⟩ := h
    have f1 := AutoSeq1.idx_int
    have c0 : (decide ((1 : Int) < -(2 ^ 63)) || decide ((1 : Int) ≥ 2 ^ 63)) = false := by decide
    have c1 : (items.isEmpty || (1 : Int) == 1) = true := by simp
    wp_walk using wpAny_loadPart' hl
    repeat (first
      | (refine wpAny_ite_false (decide_eq_false (by rw [c0]; exact Bool.false_ne_true)) ?_; wp_walk using wpAny_loadPart' hl)
      | (refine wpAny_ite_true (decide_eq_true (by rw [c1])) ?_; wp_walk using wpAny_loadPart' hl))
    exact ⟨_, rfl, h⟩
theorem tuple_mul0 (l : Addr) (items : Array Value) (n : Nat) (dd : Option Addr) (sl : Array (Option Value)) (x : Int) (u : Tok) (c0 : (decide (x < -(2 ^ 63)) || decide (x ≥ 2 ^ 63)) = false) (c1 : (items.isEmpty || x == 1) = false) (c2 : (decide (x ≤ 0) || items.isEmpty) = true) :
    Meets (Builtin.«tuple.__mul__» ⟨[.ref l, .int x u], []⟩) (fun _ R s => s.heap.get? l = some { cls := .type "tuple", dict := dd, data := .seq items n, slots := sl } ∧
      R (.ok (.ret (Value.ref s.heap.objs.size))) { s with heap := s.heap.push { cls := Value.type "tuple", data := Data.seq #[] }, toks := s.toks }) :=
  .of_wp fun prog w A R s h => by
    obtain ⟨hp, g, d, tk, os⟩ := s
    obtain ⟨hl, h⟩ := h
    have f1 := AutoSeq1.idx_int
    wp_walk using wpAny_loadPart' hl
    repeat (first
      | (refine wpAny_ite_false (decide_eq_false (by rw [c0]; exact Bool.false_ne_true)) ?_; wp_walk using wpAny_loadPart' hl)
      | (refine wpAny_ite_false (decide_eq_false (by rw [c1]; exact Bool.false_ne_true)) ?_; wp_walk using wpAny_loadPart' hl)
      | (refine wpAny_ite_true (decide_eq_true c2) ?_; wp_walk using wpAny_loadPart' hl))
    exact ⟨_, rfl, h⟩
def rRepT1 (K : PySem.W.Frag) : R2 := fun x y H Q => ∃ l xs, x = .ref l ∧ y = .int 1 ∧ SqT K H l xs ∧ Q (.ref l) H
theorem op_repT1 {X : Cx} : OpR X (binaryOp .Mult) (rRepT1 X.K) := by
  intro pins s σ H x y v u Q I rx ry h
  obtain ⟨l, xs, rfl, rfl, hT, q⟩ := h
  cases rx
  obtain ⟨t, rfl⟩ := ry
  obtain ⟨its, r, ⟨⟨cls, dd, data, sl⟩, ho, hc, n, hd⟩, hs⟩ := I.tuple hT
  simp only at hc hd
  subst hc hd
  refine wpAny_binaryOp_repeat_ref (T := "tuple") (U := "int") (by decide) ⟨_, ho, rfl⟩ (fun s' => typeIs_int s' 1 t) noFill_tuple_mul F.fills_int_mul F.slot_int_rmul repeat_tuple F.slot_int_index.lookup
    (call_meets F.slot_int_rmul (typeIs_int s 1 t) F.entry_int_rmul (F.args_int_rmul_2 _ _) (int_rmul_tuple 1 t l its.toArray n dd sl)
      ⟨ho, rfl, ⟨_, ho, rfl⟩, call_meets F.slot_tuple_mul ⟨_, ho, rfl⟩ F.entry_tuple_mul (F.args_tuple_mul_2 _ _) (tuple_mul1 l its.toArray n dd sl t) ⟨ho, ?_⟩⟩)
  exact ⟨.ref l, _, I, rfl, q⟩
def rRepT0 (K : PySem.W.Frag) : R2 := fun x y H Q => ∃ l k xs, x = .ref l ∧ y = .int k ∧ SqT K H l xs ∧ xs ≠ [] ∧ -(2 ^ 63) ≤ k ∧ k ≤ 0 ∧ ∀ p, H p = none → Q (.ref p) (upd H p (.tup []))
theorem op_repT0 {X : Cx} : OpR X (binaryOp .Mult) (rRepT0 X.K) := by
  intro pins s σ H x y v u Q I rx ry h
  obtain ⟨l, k, xs, rfl, rfl, hT, hne, h1, h2, q⟩ := h
  cases rx
  obtain ⟨t, rfl⟩ := ry
  obtain ⟨its, r, ⟨⟨cls, dd, data, sl⟩, ho, hc, n, hd⟩, hs⟩ := I.tuple hT
  simp only at hc hd
  subst hc hd
  have hle : its.length = xs.length := r.length.symm
  have hi : its.toArray.isEmpty = false := by
    cases its with
    | nil => exact absurd (List.eq_nil_of_length_eq_zero hle.symm) hne
    | cons a b => rfl
  have c0 : (decide (k < -(2 ^ 63)) || decide (k ≥ 2 ^ 63)) = false := by
    rw [decide_eq_false (by omega), decide_eq_false (by omega)] <;> rfl
  have c1 : (its.toArray.isEmpty || k == 1) = false := by
    rw [hi, Bool.false_or]
    exact beq_eq_false_iff_ne.mpr (by omega)
  have c2 : (decide (k ≤ 0) || its.toArray.isEmpty) = true := by
    rw [decide_eq_true h2]; rfl
  refine wpAny_binaryOp_repeat_ref (T := "tuple") (U := "int") (by decide) ⟨_, ho, rfl⟩ (fun s' => typeIs_int s' k t) noFill_tuple_mul F.fills_int_mul F.slot_int_rmul repeat_tuple F.slot_int_index.lookup
    (call_meets F.slot_int_rmul (typeIs_int s k t) F.entry_int_rmul (F.args_int_rmul_2 _ _) (int_rmul_tuple k t l its.toArray n dd sl)
      ⟨ho, rfl, ⟨_, ho, rfl⟩, call_meets F.slot_tuple_mul ⟨_, ho, rfl⟩ F.entry_tuple_mul (F.args_tuple_mul_2 _ _) (tuple_mul0 l its.toArray n dd sl k t c0 c1 c2) ⟨ho, ?_⟩⟩)
  refine ⟨.ref s.heap.objs.size, _, I.laid (t' := s.toks) (o := .tup []) (fun b ob q => Heap.get?_push_of_some _ q) (Nat.le_refl _) ?_, rfl, q _ (I.hok.fresh (Nat.le_refl _))⟩
  exact ⟨Nat.zero_le _, _, .nil, IsTup.new _ _⟩
end L2

set_option maxHeartbeats 2000000
/-! Z1: values by value, lists by reference into a store; the readings of the hand layer over them. -/
namespace Z
open PySem PySem.Spec PyProof.Rows L2

/-- a value: all but lists, dicts, objects by value -/
inductive W where
  | non | bl (b : Bool) | int (i : Int) | str (x : Str) | tup (xs : List W) | ref (n : Nat) | ty (n : String)
/-- what stands in the store -/
inductive O where
  | lst (xs : List W)
  | frz (xs : List W)
  | dic (kvs : List (Key × W))
abbrev Store := List O
abbrev Loc' := List (Option W)

/-- a tuple stands at a -/
def TupAt (K : PySem.W.Frag) (H : Hp) (a : Addr) (xs : List V) : Prop := H a = some (.tup xs) ∨
  ∃ (o : Obj) (its : Array Value) (n : Nat), K.lookup a = some o ∧ o.cls = .type "tuple" ∧ o.data = .seq its n ∧ its.size ≤ sizeLine ∧ Vals xs its.toList
/-- a list that nobody writes stands at a -/
def FrzAt (K : PySem.W.Frag) (H : Hp) (a : Addr) (xs : List V) : Prop := (∃ o, H a = some (.frz o (.lst xs))) ∨
  ∃ (o : Obj) (its : Array Value) (n : Nat), K.lookup a = some o ∧ o.cls = .type "list" ∧ o.dict = none ∧ o.data = .seq its n ∧ its.size ≤ sizeLine ∧ Vals xs its.toList
theorem TupAt.sq {K : PySem.W.Frag} {H : Hp} {a : Addr} {xs : List V} (h : TupAt K H a xs) : SqT K H a xs := h.elim (fun h => .inl (.inl h)) .inr
theorem FrzAt.sq {K : PySem.W.Frag} {H : Hp} {a : Addr} {xs : List V} (h : FrzAt K H a xs) : SqL K H a xs := h.elim (fun h => .inl (.inr h)) .inr

mutual
inductive Rep (K : PySem.W.Frag) (A : List Addr) (H : Hp) : W → V → Prop
  | non : Rep K A H .non .non
  | bl (b : Bool) : Rep K A H (.bl b) (.bl b)
  | int (i : Int) : Rep K A H (.int i) (.int i)
  | str (x : Str) : Rep K A H (.str x) (.str x)
  | ty (n : String) : Rep K A H (.ty n) (.ty n)
  | tup {a : Addr} {xs : List W} {vs : List V} : TupAt K H a vs → Reps K A H xs vs → Rep K A H (.tup xs) (.ref a)
  | ref {a : Addr} {n : Nat} : A[n]? = some a → Rep K A H (.ref n) (.ref a)
inductive Reps (K : PySem.W.Frag) (A : List Addr) (H : Hp) : List W → List V → Prop
  | nil : Reps K A H [] []
  | cons {x : W} {v : V} {xs : List W} {vs : List V} : Rep K A H x v → Reps K A H xs vs → Reps K A H (x :: xs) (v :: vs)
end

/-- tuples stay -/
def HExt (H H' : Hp) : Prop := ∀ a xs, H a = some (.tup xs) → H' a = some (.tup xs)
def AExt (A A' : List Addr) : Prop := ∀ (n : Nat) (a : Addr), A[n]? = some a → A'[n]? = some a
theorem HExt.refl (H : Hp) : HExt H H := fun _ _ h => h
theorem AExt.refl (A : List Addr) : AExt A A := fun _ _ h => h
theorem HExt.trans {H H1 H2 : Hp} (a : HExt H H1) (b : HExt H1 H2) : HExt H H2 := fun c o h => b c o (a c o h)
theorem AExt.trans {A A1 A2 : List Addr} (a : AExt A A1) (b : AExt A1 A2) : AExt A A2 := fun c o h => b c o (a c o h)
theorem AExt.snoc (A : List Addr) (p : Addr) : AExt A (A ++ [p]) := fun n a h => by
  obtain ⟨hl, _⟩ := List.getElem?_eq_some_iff.mp h
  rw [List.getElem?_append_left hl]; exact h
theorem HExt.new {H : Hp} {p : Addr} {o : HO} (h : H p = none) : HExt H (upd H p o) := fun a xs e => by rw [upd_ne (ne_of_none e h)]; exact e
theorem HExt.upd {H : Hp} {p : Addr} {o u : HO} (h : H p = some u) (n : ∀ xs, u ≠ .tup xs) : HExt H (upd H p o) := fun a xs e => by
  rw [upd_ne]; exact e
  rintro rfl; rw [h] at e; exact n xs (Option.some.inj e)

section
variable {K : PySem.W.Frag} {A A' : List Addr} {H H' : Hp}
theorem TupAt.mono {a : Addr} {xs : List V} (e : HExt H H') (h : TupAt K H a xs) : TupAt K H' a xs := h.elim (fun h => .inl (e _ _ h)) .inr
mutual
theorem Rep.mono (ea : AExt A A') (eh : HExt H H') : ∀ {w : W} {v : V}, Rep K A H w v → Rep K A' H' w v
  | _, _, .non => .non
  | _, _, .bl b => .bl b
  | _, _, .int i => .int i
  | _, _, .str x => .str x
  | _, _, .ty n => .ty n
  | _, _, .tup h r => .tup (h.mono eh) (Reps.mono ea eh r)
  | _, _, .ref h => .ref (ea _ _ h)
theorem Reps.mono (ea : AExt A A') (eh : HExt H H') : ∀ {ws : List W} {vs : List V}, Reps K A H ws vs → Reps K A' H' ws vs
  | _, _, .nil => .nil
  | _, _, .cons r t => .cons (Rep.mono ea eh r) (Reps.mono ea eh t)
end
theorem Reps.length : ∀ {ws : List W} {vs : List V}, Reps K A H ws vs → ws.length = vs.length
  | _, _, .nil => rfl
  | _, _, .cons _ t => by simp [Reps.length t]
theorem Reps.get : ∀ {ws : List W} {vs : List V} {i : Nat} {w : W}, Reps K A H ws vs → ws[i]? = some w → ∃ v, vs[i]? = some v ∧ Rep K A H w v
  | _, _, _, _, .nil, e => by simp at e
  | _, _, 0, _, .cons r _, e => by simp at e; subst e; exact ⟨_, rfl, r⟩
  | _, _, i + 1, x, .cons _ t, e => by
    obtain ⟨u, h1, h2⟩ := Reps.get (i := i) (w := x) t (by simpa using e)
    exact ⟨u, by simpa using h1, h2⟩
theorem Reps.get' : ∀ {ws : List W} {vs : List V} {i : Nat} {v : V}, Reps K A H ws vs → vs[i]? = some v → ∃ w, ws[i]? = some w ∧ Rep K A H w v
  | _, _, _, _, .nil, e => by simp at e
  | _, _, 0, _, .cons r _, e => by simp at e; subst e; exact ⟨_, rfl, r⟩
  | _, _, i + 1, x, .cons _ t, e => by
    obtain ⟨u, h1, h2⟩ := Reps.get' (i := i) (v := x) t (by simpa using e)
    exact ⟨u, by simpa using h1, h2⟩
theorem Reps.append : ∀ {xs ys : List W} {us ws : List V}, Reps K A H xs us → Reps K A H ys ws → Reps K A H (xs ++ ys) (us ++ ws)
  | _, _, _, _, .nil, s => s
  | _, _, _, _, .cons r t, s => .cons r (Reps.append t s)
theorem Reps.take : ∀ {xs : List W} {us : List V} (n : Nat), Reps K A H xs us → Reps K A H (xs.take n) (us.take n)
  | _, _, 0, _ => .nil
  | _, _, _ + 1, .nil => .nil
  | _, _, n + 1, .cons r t => .cons r (Reps.take n t)
theorem Reps.drop : ∀ {xs : List W} {us : List V} (n : Nat), Reps K A H xs us → Reps K A H (xs.drop n) (us.drop n)
  | _, _, 0, r => r
  | _, _, _ + 1, .nil => .nil
  | _, _, n + 1, .cons _ t => Reps.drop n t
theorem Reps.set {x : W} {u : V} (r : Rep K A H x u) : ∀ {xs : List W} {us : List V} (i : Nat), Reps K A H xs us → Reps K A H (xs.set i x) (us.set i u)
  | _, _, _, .nil => .nil
  | _, _, 0, .cons _ t => .cons r t
  | _, _, i + 1, .cons q t => .cons q (Reps.set r i t)
theorem Reps.eraseIdx : ∀ {xs : List W} {us : List V} (i : Nat), Reps K A H xs us → Reps K A H (xs.eraseIdx i) (us.eraseIdx i)
  | _, _, _, .nil => .nil
  | _, _, 0, .cons _ t => t
  | _, _, i + 1, .cons r t => .cons r (Reps.eraseIdx i t)
theorem Reps.insertIdx {x : W} {u : V} (r : Rep K A H x u) : ∀ {xs : List W} {us : List V} (i : Nat), Reps K A H xs us → Reps K A H (xs.insertIdx i x) (us.insertIdx i u)
  | _, _, 0, t => .cons r t
  | _, _, i + 1, .nil => by simpa using Reps.nil
  | _, _, i + 1, .cons q t => by simpa using Reps.cons q (Reps.insertIdx r i t)
theorem Reps.reverse : ∀ {xs : List W} {us : List V}, Reps K A H xs us → Reps K A H xs.reverse us.reverse
  | _, _, .nil => .nil
  | _, _, .cons r t => by simpa using Reps.append (Reps.reverse t) (.cons r .nil)
end

/-- what the store has at a place -/
def CellOk (K : PySem.W.Frag) (A : List Addr) (H : Hp) (a : Addr) : O → Prop
  | .lst xs => ∃ vs, H a = some (.lst vs) ∧ Reps K A H xs vs
  | .frz xs => ∃ vs, FrzAt K H a vs ∧ Reps K A H xs vs
  | .dic kvs => ∃ kws, H a = some (.dK kws) ∧ kvs.map (·.1) = kws.map (·.1) ∧ Reps K A H (kvs.map (·.2)) (kws.map (·.2))
/-- may be written -/
def O.mut : O → Bool
  | .frz _ => false
  | _ => true
/-- a table of code objects that are good, d deep -/
def TabD : Nat → Hp → Addr → Prop
  | 0, H, P => ∃ ps : Array Value, H P = some (.tbl ps) ∧ TriplesOk ps.toList
  | d + 1, H, P => ∃ ps : Array Value, H P = some (.tbl ps) ∧ TriplesOk ps.toList ∧ ∀ pos cv, codeAmong pos ps.toList = some cv → ∃ (c : Addr) (o : Obj) (Q : Addr), cv = .ref c ∧ H c = some (.frz o GX.anyU) ∧ GX.CodeO o c Q ∧ TabD d H Q
def TabG (H : Hp) (P : Addr) : Prop := ∀ d, TabD d H P
theorem TabD.mono {H H' : Hp} (k : ∀ b u, H b = some u → (∃ ps, u = .tbl ps) ∨ (∃ o, u = .frz o GX.anyU) → H' b = some u) : ∀ {d : Nat} {P : Addr}, TabD d H P → TabD d H' P
  | 0, _, ⟨ps, e, t⟩ => ⟨ps, k _ _ e (.inl ⟨_, rfl⟩), t⟩
  | d + 1, _, ⟨ps, e, t, h⟩ => ⟨ps, k _ _ e (.inl ⟨_, rfl⟩), t, fun pos cv hc => by
    obtain ⟨c, o, Q, e1, e2, e3, e4⟩ := h pos cv hc
    exact ⟨c, o, Q, e1, k _ _ e2 (.inr ⟨_, rfl⟩), e3, TabD.mono k e4⟩⟩
theorem TabG.mono {H H' : Hp} {P : Addr} (k : ∀ b u, H b = some u → (∃ ps, u = .tbl ps) ∨ (∃ o, u = .frz o GX.anyU) → H' b = some u) (h : TabG H P) : TabG H' P := fun d => (h d).mono k
theorem TabG.tbl {H : Hp} {P : Addr} (h : TabG H P) : ∃ ps : Array Value, H P = some (.tbl ps) ∧ TriplesOk ps.toList := h 0
structure SOk (K : PySem.W.Frag) (TB : List Addr) (A : List Addr) (S : Store) (H : Hp) : Prop where
  len : A.length = S.length
  inj : ∀ (i j : Nat) (a : Addr) (o u : O), A[i]? = some a → A[j]? = some a → S[i]? = some o → S[j]? = some u → o.mut = true → u.mut = true → i = j
  cell : ∀ (n : Nat) (a : Addr) (o : O), A[n]? = some a → S[n]? = some o → CellOk K A H a o
  tab : ∀ P ∈ TB, TabG H P
def LOk (K : PySem.W.Frag) (A : List Addr) (H : Hp) (L : Loc') (σ : L2.St) : Prop :=
  L.length = σ.length ∧ ∀ (i : Nat) (w : W), L[i]? = some (some w) → ∃ v, σ[i]? = some (some v) ∧ Rep K A H w v

section
variable {K : PySem.W.Frag} {TB : List Addr} {A A' : List Addr} {S : Store} {H H' : Hp}
theorem LOk.mono {L : Loc'} {σ : L2.St} (ea : AExt A A') (eh : HExt H H') (h : LOk K A H L σ) : LOk K A' H' L σ :=
  ⟨h.1, fun i w e => let ⟨v, h1, h2⟩ := h.2 i w e; ⟨v, h1, h2.mono ea eh⟩⟩
theorem LOk.set {L : Loc'} {σ : L2.St} {w : W} {v : V} (h : LOk K A H L σ) (r : Rep K A H w v) (i : Nat) : LOk K A H (L.set i (some w)) (σ.set i (some v)) := by
  refine ⟨by simp [h.1], fun j x e => ?_⟩
  by_cases hj : i = j
  · subst hj
    by_cases hi : i < L.length
    · rw [List.getElem?_set_self hi] at e
      cases e
      exact ⟨v, List.getElem?_set_self (by rw [← h.1]; exact hi), r⟩
    · rw [List.getElem?_eq_none (by simpa using hi)] at e; cases e
  · rw [List.getElem?_set_ne hj] at e
    obtain ⟨v', h1, h2⟩ := h.2 j x e
    exact ⟨v', by rw [List.getElem?_set_ne hj]; exact h1, h2⟩
theorem SOk.addr (h : SOk K TB A S H) {n : Nat} {o : O} (e : S[n]? = some o) : ∃ a, A[n]? = some a := by
  obtain ⟨hl, _⟩ := List.getElem?_eq_some_iff.mp e
  exact ⟨_, List.getElem?_eq_getElem (by rw [h.len]; exact hl)⟩
theorem CellOk.mono {a : Addr} {o : O} (ea : AExt A A') (eh : HExt H H') (hl : o.mut = true → H' a = H a) (hz : ∀ z y, H a = some (.frz z y) → H' a = some (.frz z y)) (h : CellOk K A H a o) : CellOk K A' H' a o := by
  cases o with
  | lst xs => obtain ⟨vs, e, r⟩ := h; exact ⟨vs, (hl rfl).trans e, r.mono ea eh⟩
  | frz xs =>
    obtain ⟨vs, e, r⟩ := h
    refine ⟨vs, e.elim (fun ⟨o, e⟩ => .inl ⟨o, hz _ _ e⟩) .inr, r.mono ea eh⟩
  | dic kvs => obtain ⟨vs, e, k, r⟩ := h; exact ⟨vs, (hl rfl).trans e, k, r.mono ea eh⟩
theorem CellOk.trk {a : Addr} {o : O} (h : CellOk K A H a o) (m : o.mut = true) : ∃ u, H a = some u ∧ Mut (some u) ∧ (∀ xs, u ≠ .tup xs) ∧ (∀ ps, u ≠ .tbl ps) ∧ ∀ z y, u ≠ .frz z y := by
  cases o with
  | lst xs => obtain ⟨vs, e, r⟩ := h; exact ⟨_, e, trivial, (fun _ z => by cases z), (fun _ z => by cases z), (fun _ _ z => by cases z)⟩
  | frz xs => cases m
  | dic kvs => obtain ⟨vs, e, k, r⟩ := h; exact ⟨_, e, trivial, (fun _ z => by cases z), (fun _ z => by cases z), (fun _ _ z => by cases z)⟩
theorem CellOk.lst' {a : Addr} {xs : List W} {vs : List V} (h : H a = some (.lst vs)) (r : Reps K A H xs vs) : CellOk K A H a (.lst xs) := Exists.intro vs ⟨h, r⟩
theorem CellOk.dic' {a : Addr} {kvs : List (Key × W)} {kws : List (Key × V)} (h : H a = some (.dK kws)) (e : kvs.map (·.1) = kws.map (·.1)) (r : Reps K A H (kvs.map (·.2)) (kws.map (·.2))) : CellOk K A H a (.dic kvs) := Exists.intro kws ⟨h, e, r⟩
/-- a new object that is no cell of the store -/
theorem SOk.laid {p : Addr} {u : HO} (h : SOk K TB A S H) (hp : H p = none) : SOk K TB A S (upd H p u) := by
  refine ⟨h.len, h.inj, fun n a o h1 h2 => ?_, fun P hP => ?_⟩
  · refine (h.cell n a o h1 h2).mono (AExt.refl _) (HExt.new hp) (fun m => ?_) fun z y e => ?_
    · obtain ⟨u, e, _⟩ := (h.cell n a o h1 h2).trk m
      rw [upd_ne (ne_of_none e hp)]
    · rw [upd_ne (ne_of_none e hp)]; exact e
  · exact (h.tab P hP).mono fun b u e _ => by rw [upd_ne (ne_of_none e hp)]; exact e
/-- a new cell -/
theorem SOk.new {p : Addr} {u : HO} {o : O} (h : SOk K TB A S H) (hp : H p = none) (c : CellOk K (A ++ [p]) (upd H p u) p o) : SOk K TB (A ++ [p]) (S ++ [o]) (upd H p u) := by
  have old := h.laid (u := u) hp
  refine ⟨by simp [h.len], fun i j a o1 o2 h1 h2 h3 h4 m1 m2 => ?_, fun n a o' h1 h2 => ?_, old.tab⟩
  · have key : ∀ (i : Nat) (a : Addr) (o1 : O), (A ++ [p])[i]? = some a → (S ++ [o])[i]? = some o1 → o1.mut = true → (i < A.length ∧ a ≠ p ∧ A[i]? = some a ∧ S[i]? = some o1) ∨ (i = A.length ∧ a = p) := fun i a o1 h1 h3 m => by
      by_cases hi : i < A.length
      · rw [List.getElem?_append_left hi] at h1
        rw [List.getElem?_append_left (by rw [← h.len]; exact hi)] at h3
        obtain ⟨u, e, _⟩ := (h.cell i a o1 h1 h3).trk m
        exact .inl ⟨hi, ne_of_none e hp, h1, h3⟩
      · rw [List.getElem?_append_right (by omega)] at h1
        have : i - A.length = 0 := by
          cases hq : i - A.length with
          | zero => rfl
          | succ k => rw [hq] at h1; simp at h1
        rw [this] at h1
        exact .inr ⟨by omega, by simpa using h1.symm⟩
    rcases key i a o1 h1 h3 m1 with ⟨a1, b1, c1, d1⟩ | ⟨a1, b1⟩ <;> rcases key j a o2 h2 h4 m2 with ⟨a2, b2, c2, d2⟩ | ⟨a2, b2⟩
    · exact h.inj i j a o1 o2 c1 c2 d1 d2 m1 m2
    · exact absurd b2 b1
    · exact absurd b1 b2
    · omega
  · by_cases hn : n < A.length
    · rw [List.getElem?_append_left hn] at h1
      rw [List.getElem?_append_left (by rw [← h.len]; exact hn)] at h2
      exact (old.cell n a o' h1 h2).mono (AExt.snoc _ _) (HExt.refl _) (fun _ => rfl) fun _ _ e => e
    · rw [List.getElem?_append_right (by omega)] at h1
      rw [List.getElem?_append_right (by rw [← h.len]; omega)] at h2
      have e0 : n - A.length = 0 := by
        cases hq : n - A.length with
        | zero => rfl
        | succ k => rw [hq] at h1; simp at h1
      rw [e0] at h1
      rw [← h.len, e0] at h2
      have e1 : p = a := by simpa using h1
      have e2 : o = o' := by simpa using h2
      subst e1 e2
      exact c
/-- a cell is written -/
theorem SOk.write {n : Nat} {a : Addr} {o o' : O} {u : HO} (h : SOk K TB A S H) (ha : A[n]? = some a) (hs : S[n]? = some o) (m : o.mut = true) (m' : o'.mut = true) (c : HExt H (upd H a u) → CellOk K A (upd H a u) a o') : SOk K TB A (S.set n o') (upd H a u) ∧ HExt H (upd H a u) := by
  obtain ⟨v, e, mu, nt, nb, nf⟩ := (h.cell n a o ha hs).trk m
  have eh : HExt H (upd H a u) := HExt.upd e nt
  refine ⟨⟨by simp [h.len], fun i j b o1 o2 h1 h2 h3 h4 m1 m2 => ?_, fun i b o1 h1 h2 => ?_, fun P hP => ?_⟩, eh⟩
  · have key : ∀ (i : Nat) (o1 : O), (S.set n o')[i]? = some o1 → o1.mut = true → ∃ o2, S[i]? = some o2 ∧ o2.mut = true := fun i o1 h m1 => by
      by_cases hi : n = i
      · subst hi; exact ⟨o, hs, m⟩
      · rw [List.getElem?_set_ne hi] at h; exact ⟨o1, h, m1⟩
    obtain ⟨p1, q1, r1⟩ := key i o1 h3 m1
    obtain ⟨p2, q2, r2⟩ := key j o2 h4 m2
    exact h.inj i j b p1 p2 h1 h2 q1 q2 r1 r2
  · by_cases hi : n = i
    · subst hi
      rw [ha] at h1; cases h1
      rw [List.getElem?_set_self (List.getElem?_eq_some_iff.mp hs).1] at h2; cases h2
      exact c eh
    · rw [List.getElem?_set_ne hi] at h2
      refine (h.cell i b o1 h1 h2).mono (AExt.refl _) eh (fun m1 => ?_) fun z y e' => ?_
      · rw [upd_ne]
        rintro rfl
        exact hi (h.inj n i _ o o1 ha h1 hs h2 m m1)
      · rw [upd_ne]; exact e'
        rintro rfl
        rw [e] at e'; exact absurd (Option.some.inj e') (nf _ _)
  · refine (h.tab P hP).mono fun b w e2 k => ?_
    rw [upd_ne]; exact e2
    rintro rfl
    rw [e] at e2
    have e3 := Option.some.inj e2
    rcases k with ⟨ps, k⟩ | ⟨o, k⟩
    · exact nb ps (e3.trans k)
    · exact nf o _ (e3.trans k)
end
end Z

set_option maxHeartbeats 2000000
/-! Z2: expressions. -/
namespace Z
open PySem PySem.Spec PyProof.Rows L2

abbrev WK := W → Store → Prop
abbrev ZE := Loc' → Store → WK → Prop
abbrev ZT := Loc' → Store → (Bool → Store → Prop) → Prop
abbrev ZA := Loc' → Store → (List W → Store → Prop) → Prop
/-- by values -/
abbrev Z1' := W → Store → WK → Prop
abbrev Z2' := W → W → Store → WK → Prop
abbrev ZC := List W → Store → WK → Prop
structure ZEnds where
  nx : Loc' → Store → Prop
  rt : WK
  bk : Loc' → Store → Prop := fun _ _ => False
  ct : Loc' → Store → Prop := fun _ _ => False
abbrev ZS := ZEnds → Loc' → Store → Prop

section
variable (K : PySem.W.Frag) (TB : List Addr)
def Aft (A : List Addr) (H : Hp) (Kc : WK) : VK := fun v H' => ∃ A' S' w, AExt A A' ∧ HExt H H' ∧ SOk K TB A' S' H' ∧ Rep K A' H' w v ∧ Kc w S'
def AftT (A : List Addr) (H : Hp) (Kc : Bool → Store → Prop) : Bool → Hp → Prop := fun b H' => ∃ A' S', AExt A A' ∧ HExt H H' ∧ SOk K TB A' S' H' ∧ Kc b S'
def AftA (A : List Addr) (H : Hp) (Kc : List W → Store → Prop) : List V → Hp → Prop := fun vs H' => ∃ A' S' ws, AExt A A' ∧ HExt H H' ∧ SOk K TB A' S' H' ∧ Reps K A' H' ws vs ∧ Kc ws S'
def AftS (A : List Addr) (H : Hp) (Kc : Loc' → Store → Prop) : L2.St → Hp → Prop := fun σ' H' => ∃ A' S' L', AExt A A' ∧ HExt H H' ∧ SOk K TB A' S' H' ∧ LOk K A' H' L' σ' ∧ Kc L' S'
def low (t : ZE) : TE := fun σ H Q => ∃ L S A Kc, SOk K TB A S H ∧ LOk K A H L σ ∧ t L S Kc ∧ ∀ v H', Aft K TB A H Kc v H' → Q v H'
def lowT (t : ZT) : TT := fun σ H Q => ∃ L S A Kc, SOk K TB A S H ∧ LOk K A H L σ ∧ t L S Kc ∧ ∀ v H', AftT K TB A H Kc v H' → Q v H'
def lowA (t : ZA) : TA := fun σ H Q => ∃ L S A Kc, SOk K TB A S H ∧ LOk K A H L σ ∧ t L S Kc ∧ ∀ v H', AftA K TB A H Kc v H' → Q v H'
def low1 (r : Z1') : V → Hp → VK → Prop := fun x H Q => ∃ A S wx Kc, SOk K TB A S H ∧ Rep K A H wx x ∧ r wx S Kc ∧ ∀ v H', Aft K TB A H Kc v H' → Q v H'
def low2 (r : Z2') : R2 := fun x y H Q => ∃ A S wx wy Kc, SOk K TB A S H ∧ Rep K A H wx x ∧ Rep K A H wy y ∧ r wx wy S Kc ∧ ∀ v H', Aft K TB A H Kc v H' → Q v H'
def lowC (r : ZC) : List V → Hp → VK → Prop := fun xs H Q => ∃ A S ws Kc, SOk K TB A S H ∧ Reps K A H ws xs ∧ r ws S Kc ∧ ∀ v H', Aft K TB A H Kc v H' → Q v H'
def lowS (t : ZS) : TS := fun D σ H => ∃ L S A ZD, SOk K TB A S H ∧ LOk K A H L σ ∧ t ZD L S ∧ (∀ σ' H', AftS K TB A H ZD.nx σ' H' → D.nx σ' H') ∧ (∀ v H', Aft K TB A H ZD.rt v H' → D.rt v H') ∧
  (∀ σ' H', AftS K TB A H ZD.bk σ' H' → D.bk σ' H') ∧ (∀ σ' H', AftS K TB A H ZD.ct σ' H' → D.ct σ' H')
end

structure ZPE (TB : List Addr) (X : Cx) (e : Expr) (t : ZE) : Prop where
  pe : PE X e (low X.K TB t)
structure ZPT (TB : List Addr) (X : Cx) (e : Expr) (t : ZT) : Prop where
  pt : PT X e (lowT X.K TB t)
structure ZPW (TB : List Addr) (X : Cx) (e : Expr) (t : ZT) : Prop where
  pw : PW X e (lowT X.K TB t)
structure ZPA (TB : List Addr) (X : Cx) (es : List Expr) (t : ZA) : Prop where
  pa : PA X es (lowA X.K TB t)
structure ZPS (TB : List Addr) (X : Cx) (st : Stmt) (t : ZS) : Prop where
  ps : PS X st (lowS X.K TB t)
structure ZPSs (TB : List Addr) (X : Cx) (st : List Stmt) (t : ZS) : Prop where
  ps : PSs X st (lowS X.K TB t)

section
variable {X : Cx} {e : Expr} {es : List Expr} {st : Stmt} {sts : List Stmt}
theorem _root_.L2.PE.conv {T T' : TE} (h : PE X e T) (c : ∀ σ H Q, T' σ H Q → T σ H Q) : PE X e T' := ⟨fun pins s σ H Q I q => h.run pins s σ H Q I (c σ H Q q)⟩
theorem _root_.L2.PT.conv {T T' : TT} (h : PT X e T) (c : ∀ σ H Q, T' σ H Q → T σ H Q) : PT X e T' := ⟨fun pins s σ H Q I q => h.run pins s σ H Q I (c σ H Q q)⟩
theorem _root_.L2.PW.conv {T T' : TT} (h : PW X e T) (c : ∀ σ H Q, T' σ H Q → T σ H Q) : PW X e T' := ⟨fun wh pins s σ H Q I q => h.run wh pins s σ H Q I (c σ H Q q)⟩
theorem _root_.L2.PA.conv {T T' : TA} (h : PA X es T) (c : ∀ σ H Q, T' σ H Q → T σ H Q) : PA X es T' := ⟨fun pos pins s σ H Q I q => h.run pos pins s σ H Q I (c σ H Q q)⟩
theorem _root_.L2.PS.conv {T T' : TS} (h : PS X st T) (c : ∀ D σ H, T' D σ H → T D σ H) : PS X st T' := ⟨fun pins s σ H D I q => h.run pins s σ H D I (c D σ H q)⟩
theorem _root_.L2.PSs.conv {T T' : TS} (h : PSs X sts T) (c : ∀ D σ H, T' D σ H → T D σ H) : PSs X sts T' := ⟨fun pins s σ H D I q => h.run pins s σ H D I (c D σ H q)⟩
end

section
variable {K : PySem.W.Frag} {TB : List Addr} {A A1 : List Addr} {H H1 : Hp}
/-- the end, a step on -/
theorem Aft.on {Kc : WK} {v : V} {H' : Hp} (ea : AExt A A1) (eh : HExt H H1) (h : Aft K TB A1 H1 Kc v H') : Aft K TB A H Kc v H' := by
  obtain ⟨A', S', w, a, b, c⟩ := h
  exact ⟨A', S', w, ea.trans a, eh.trans b, c⟩
theorem AftT.on {Kc : Bool → Store → Prop} {v : Bool} {H' : Hp} (ea : AExt A A1) (eh : HExt H H1) (h : AftT K TB A1 H1 Kc v H') : AftT K TB A H Kc v H' := by
  obtain ⟨A', S', a, b, c⟩ := h
  exact ⟨A', S', ea.trans a, eh.trans b, c⟩
theorem AftA.on {Kc : List W → Store → Prop} {v : List V} {H' : Hp} (ea : AExt A A1) (eh : HExt H H1) (h : AftA K TB A1 H1 Kc v H') : AftA K TB A H Kc v H' := by
  obtain ⟨A', S', w, a, b, c⟩ := h
  exact ⟨A', S', w, ea.trans a, eh.trans b, c⟩
theorem AftS.on {Kc : Loc' → Store → Prop} {v : L2.St} {H' : Hp} (ea : AExt A A1) (eh : HExt H H1) (h : AftS K TB A1 H1 Kc v H') : AftS K TB A H Kc v H' := by
  obtain ⟨A', S', w, a, b, c⟩ := h
  exact ⟨A', S', w, ea.trans a, eh.trans b, c⟩
theorem Aft.here {Kc : WK} {v : V} {w : W} {S : Store} (s : SOk K TB A S H) (r : Rep K A H w v) (k : Kc w S) : Aft K TB A H Kc v H := ⟨A, S, w, .refl _, .refl _, s, r, k⟩
/-- a new tuple -/
theorem Aft.tup {Kc : WK} {xs : List W} {vs : List V} {S : Store} {p : Addr} (s : SOk K TB A S H) (r : Reps K A H xs vs) (hp : H p = none) (k : Kc (.tup xs) S) : Aft K TB A H Kc (.ref p) (upd H p (.tup vs)) :=
  ⟨A, S, .tup xs, .refl _, .new hp, s.laid hp, .tup (.inl upd_same) (r.mono (.refl _) (.new hp)), k⟩
/-- a new list -/
theorem Aft.lst {Kc : WK} {xs : List W} {vs : List V} {S : Store} {p : Addr} (s : SOk K TB A S H) (r : Reps K A H xs vs) (hp : H p = none) (k : Kc (.ref S.length) (S ++ [.lst xs])) : Aft K TB A H Kc (.ref p) (upd H p (.lst vs)) := by
  have ea := AExt.snoc A p
  have eh : HExt H (upd H p (.lst vs)) := .new hp
  refine ⟨A ++ [p], S ++ [.lst xs], .ref S.length, ea, eh, s.new hp (.lst' upd_same (r.mono ea eh)), .ref ?_, k⟩
  rw [← s.len]; simp
/-- a list is read -/
theorem SOk.lst {S : Store} {n : Nat} {xs : List W} {a : Addr} (s : SOk K TB A S H) (ha : A[n]? = some a) (h : S[n]? = some (.lst xs)) : ∃ vs, H a = some (.lst vs) ∧ Reps K A H xs vs := s.cell n a _ ha h
/-- .. as a list that may be locked -/
def getL (S : Store) (n : Nat) : Option (List W) := match S[n]? with
  | some (.lst xs) => some xs
  | some (.frz xs) => some xs
  | _ => none
abbrev IsLst (S : Store) (n : Nat) (xs : List W) : Prop := getL S n = some xs
theorem isL {S : Store} {n : Nat} {xs : List W} : IsLst S n xs ↔ S[n]? = some (.lst xs) ∨ S[n]? = some (.frz xs) := by
  unfold IsLst getL
  cases h : S[n]? with
  | none => simp
  | some o => cases o <;> simp
theorem SOk.seq {S : Store} {n : Nat} {xs : List W} {a : Addr} (s : SOk K TB A S H) (ha : A[n]? = some a) (h : IsLst S n xs) : ∃ vs, SqL K H a vs ∧ Reps K A H xs vs := by
  rcases isL.mp h with h | h
  · obtain ⟨vs, e, r⟩ := s.cell n a _ ha h; exact ⟨vs, SqL.of e, r⟩
  · obtain ⟨vs, e, r⟩ := s.cell n a _ ha h; exact ⟨vs, e.sq, r⟩
/-- a list is written -/
theorem Aft.set {Kc : WK} {xs : List W} {ys : List W} {us : List V} {S : Store} {n : Nat} {a : Addr} {w : W} {v : V} (s : SOk K TB A S H) (ha : A[n]? = some a) (h : S[n]? = some (.lst xs)) (r : Reps K A H ys us) (rw' : Rep K A H w v)
    (k : Kc w (S.set n (.lst ys))) : Aft K TB A H Kc v (upd H a (.lst us)) := by
  obtain ⟨s', eh⟩ := s.write (o' := .lst ys) (u := .lst us) ha h rfl rfl fun eh => .lst' upd_same (r.mono (.refl _) eh)
  exact ⟨A, _, w, .refl _, eh, s', rw'.mono (.refl _) eh, k⟩
end

section
variable {X : Cx} {TB : List Addr} {a b c e : Expr} {es : List Expr} {ta tb tc te : ZE} {t u : ZT} {pos : Pos}
/-- a wall that no reckoning passes -/
structure Bx (p : Prop) : Prop where
  ok : p
/-- a branch -/
@[irreducible] def qIf (b : Bool) (A B : Prop) : Prop := Bx (if b = true then A else B)
theorem qIf_t {A B : Prop} : qIf true A B = A := by unfold qIf; exact propext ⟨fun h => by have := h.ok; rwa [if_pos rfl] at this, fun h => ⟨by rw [if_pos rfl]; exact h⟩⟩
theorem qIf_f {A B : Prop} : qIf false A B = B := by unfold qIf; exact propext ⟨fun h => by have := h.ok; rwa [if_neg Bool.false_ne_true] at this, fun h => ⟨by rw [if_neg Bool.false_ne_true]; exact h⟩⟩
/-- a local is written -/
@[irreducible] def qLet (i : Nat) (w : Option W) (L : Loc') (k : Loc' → Prop) : Prop := Bx (k (L.set i w))
theorem qLet_iff {i : Nat} {w : Option W} {L : Loc'} {k : Loc' → Prop} : qLet i w L k ↔ k (L.set i w) := by unfold qLet; exact ⟨fun h => h.ok, fun h => ⟨h⟩⟩
def onV (o : Option (Option W)) (P : W → Prop) : Prop := match o with
  | some (some w) => P w
  | _ => False
theorem onV_ex {o : Option (Option W)} {P : W → Prop} (h : onV o P) : ∃ w, o = some (some w) ∧ P w := by
  unfold onV at h
  split at h
  · exact ⟨_, rfl, h⟩
  · exact h.elim
def onBl (K : Bool → Prop) (w : W) : Prop := match w with
  | .bl b => K b
  | _ => False
theorem onBl_ex {K : Bool → Prop} {w : W} (h : onBl K w) : ∃ b, w = .bl b ∧ K b := by
  unfold onBl at h
  split at h
  · exact ⟨_, rfl, h⟩
  · exact h.elim
def onInt (K : Int → Prop) (w : W) : Prop := match w with
  | .int b => K b
  | _ => False
theorem onInt_ex {K : Int → Prop} {w : W} (h : onInt K w) : ∃ b, w = .int b ∧ K b := by
  unfold onInt at h
  split at h
  · exact ⟨_, rfl, h⟩
  · exact h.elim
def onTup (K : List W → Prop) (w : W) : Prop := match w with
  | .tup b => K b
  | _ => False
theorem onTup_ex {K : List W → Prop} {w : W} (h : onTup K w) : ∃ b, w = .tup b ∧ K b := by
  unfold onTup at h
  split at h
  · exact ⟨_, rfl, h⟩
  · exact h.elim
def onSome {α : Type} (o : Option α) (K : α → Prop) : Prop := match o with
  | some b => K b
  | none => False
theorem onSome_ex {α : Type} {o : Option α} {K : α → Prop} (h : onSome o K) : ∃ b, o = some b ∧ K b := by
  unfold onSome at h
  split at h
  · exact ⟨_, rfl, h⟩
  · exact h.elim
/-- the number of arguments -/
def qAr (m n : Nat) (P : Prop) : Prop := match decide (m = n) with
  | true => P
  | false => False
theorem qAr_ex {m n : Nat} {P : Prop} (h : qAr m n P) : m = n ∧ P := by
  unfold qAr at h
  split at h
  · rename_i e; exact ⟨of_decide_eq_true e, h⟩
  · exact h.elim
def zVar (i : Nat) : ZE := fun L S K => onV L[i]? fun w => K w S
def zC (w : W) : ZE := fun _ S K => K w S
theorem z_var (i : Nat) {x : Str} {pos : Pos} (hN : X.N[i]? = some x := by rfl) (hv : Vis X.env.scope x := by first | exact Or.inl rfl | exact Or.inr (Or.inl rfl) | exact Or.inr (Or.inr rfl)) (hd : (x == ("__debug__" : Str)) = false := by decide)
    (hcd : (x == ("__classdict__" : Str)) = false := by decide) : ZPE TB X (.Name x pos) (zVar i) :=
  ⟨(pe_var hN hv hd hcd).conv fun σ H Q ⟨L, S, A, Kc, s, l, h, hQ⟩ => let ⟨w, hw, k⟩ := onV_ex h; let ⟨v, h1, h2⟩ := l.2 i w hw; ⟨v, h1, hQ _ _ (.here s h2 k)⟩⟩
theorem z_int {i j pos} : ZPE TB X (.Constant (.int i) j pos) (zC (.int i)) := ⟨pe_int.conv fun σ H Q ⟨L, S, A, Kc, s, l, k, hQ⟩ => hQ _ _ (.here s (.int i) k)⟩
theorem z_bl {i j pos} : ZPE TB X (.Constant (.bool i) j pos) (zC (.bl i)) := ⟨pe_bl.conv fun σ H Q ⟨L, S, A, Kc, s, l, k, hQ⟩ => hQ _ _ (.here s (.bl i) k)⟩
theorem z_str {i j pos} : ZPE TB X (.Constant (.str i) j pos) (zC (.str i)) := ⟨pe_str.conv fun σ H Q ⟨L, S, A, Kc, s, l, k, hQ⟩ => hQ _ _ (.here s (.str i) k)⟩
theorem z_non {j pos} : ZPE TB X (.Constant .none j pos) (zC .non) := ⟨pe_non.conv fun σ H Q ⟨L, S, A, Kc, s, l, k, hQ⟩ => hQ _ _ (.here s .non k)⟩
/-- a built-in type's name as a value -/
theorem z_ty {x : Str} {n : String} {pos : Pos} (hg : Gl X x) (hm : X.mg x = none) (hv : bootBuiltins x = some (.type n)) (hn : x ≠ "__name__" := by decide) (hd : (x == ("__debug__" : Str)) = false := by decide) : ZPE TB X (.Name x pos) (zC (.ty n)) :=
  ⟨(pe_bltn (v := .ty n) hg hm hv rfl hn hd).conv fun σ H Q ⟨L, S, A, Kc, s, l, k, hQ⟩ => hQ _ _ (.here s (.ty n) k)⟩

/-- an operator of two values -/
structure ZO2 (TB : List Addr) (X : Cx) (f : Value → Value → Sem Value) (r : Z2') : Prop where
  ok : OpR X f (low2 X.K TB r)
structure ZO1 (TB : List Addr) (X : Cx) (f : Value → Sem Value) (r : Z1') : Prop where
  ok : UnR X f (low1 X.K TB r)
structure ZOC (TB : List Addr) (X : Cx) (f : Value) (r : ZC) : Prop where
  ok : CallR X f (lowC X.K TB r)
def zOp (r : Z2') (ta tb : ZE) : ZE := fun L S K => ta L S fun x S1 => tb L S1 fun y S2 => r x y S2 K
def zUn (r : Z1') (ta : ZE) : ZE := fun L S K => ta L S fun x S1 => r x S1 K
theorem low_op {K : PySem.W.Frag} {r : Z2'} {σ : L2.St} {H : Hp} {Q : VK} (h : low K TB (zOp r ta tb) σ H Q) : tOp (low2 K TB r) (low K TB ta) (low K TB tb) σ H Q := by
  obtain ⟨L, S, A, Kc, s, l, h, hQ⟩ := h
  refine ⟨L, S, A, _, s, l, h, fun v1 H1 ⟨A1, S1, w1, ea1, eh1, s1, r1, h1⟩ => ?_⟩
  refine ⟨L, S1, A1, _, s1, l.mono ea1 eh1, h1, fun v2 H2 ⟨A2, S2, w2, ea2, eh2, s2, r2, h2⟩ => ?_⟩
  exact ⟨A2, S2, w1, w2, Kc, s2, r1.mono ea2 eh2, r2, h2, fun v H' q => hQ v H' ((q.on ea2 eh2).on ea1 eh1)⟩
theorem z_op {op : Operator} {r : Z2'} (ho : ZO2 TB X (binaryOp op) r) (ha : ZPE TB X a ta) (hb : ZPE TB X b tb) : ZPE TB X (.BinOp a op b pos) (zOp r ta tb) :=
  ⟨(pe_op ho.ok ha.pe hb.pe).conv fun σ H Q h => low_op h⟩
theorem z_cmp {op : CmpOp} {r : Z2'} (ho : ZO2 TB X (compareOp op) r) (ha : ZPE TB X a ta) (hb : ZPE TB X b tb) (hm : behindInMarks op b = false) : ZPE TB X (.Compare a [op] [b] pos) (zOp r ta tb) :=
  ⟨(pe_cmpR ho.ok ha.pe hb.pe hm).conv fun σ H Q h => low_op h⟩
theorem z_ix {r : Z2'} (ho : IxR X (low2 X.K TB r)) (ha : ZPE TB X a ta) (hb : ZPE TB X b tb) (hs : PlainIx b) : ZPE TB X (.Subscript a b pos) (zOp r ta tb) :=
  ⟨(pe_ix ho ha.pe hb.pe hs).conv fun σ H Q h => low_op h⟩
theorem z_un {op : UnaryOp} {r : Z1'} (ho : ZO1 TB X (unaryOp op) r) (ha : ZPE TB X a ta) : ZPE TB X (.UnaryOp op a pos) (zUn r ta) :=
  ⟨(pe_un ho.ok ha.pe).conv fun σ H Q ⟨L, S, A, Kc, s, l, h, hQ⟩ => ⟨L, S, A, _, s, l, h, fun v1 H1 ⟨A1, S1, w1, ea1, eh1, s1, r1, h1⟩ => ⟨A1, S1, w1, Kc, s1, r1, h1, fun v H' q => hQ v H' (q.on ea1 eh1)⟩⟩⟩

/-! ### tests -/
/-- a test that is a value's truth -/
def W.truth (S : Store) : W → Option Bool
  | .non => some false
  | .bl b => some b
  | .int i => some (i != 0)
  | .str y => if y.length ≤ sizeLine then some ((y.length : Int) != 0) else none
  | .tup xs => some (!xs.isEmpty)
  | .ref n => match S[n]? with
    | some (.lst xs) => some (!xs.isEmpty)
    | some (.frz xs) => some (!xs.isEmpty)
    | some (.dic kvs) => some (!kvs.isEmpty)
    | none => none
  | .ty _ => none
theorem Reps.empty {K : PySem.W.Frag} {A : List Addr} {H : Hp} {ws : List W} {vs : List V} (h : Reps K A H ws vs) : ws.isEmpty = vs.isEmpty := by cases h <;> rfl
theorem tru_of {K : PySem.W.Frag} {A : List Addr} {S : Store} {H : Hp} {w : W} {v : V} {k : Bool} (s : SOk K TB A S H) (r : Rep K A H w v) (h : w.truth S = some k) : TruV K v H k := by
  cases r with
  | non => cases h; rfl
  | bl b => cases h; rfl
  | int i => cases h; rfl
  | str x =>
    by_cases hx : x.length ≤ sizeLine
    · simp only [W.truth, hx, if_true, Option.some.injEq] at h
      exact ⟨hx, h.symm⟩
    · simp [W.truth, hx] at h
  | ty n => cases h
  | tup h1 h2 =>
    cases h
    exact .inr (.inl ⟨_, h1.sq, by rw [h2.empty]⟩)
  | @ref a n h1 =>
    cases hc : S[n]? with
    | none => simp [W.truth, hc] at h
    | some o =>
      cases o with
      | lst xs =>
        simp only [W.truth, hc, Option.some.injEq] at h
        obtain ⟨vs, e, r⟩ := s.seq h1 (isL.mpr (.inl hc))
        exact .inl ⟨vs, e, by rw [← h, r.empty]⟩
      | frz xs =>
        simp only [W.truth, hc, Option.some.injEq] at h
        obtain ⟨vs, e, r⟩ := s.seq h1 (isL.mpr (.inr hc))
        exact .inl ⟨vs, e, by rw [← h, r.empty]⟩
      | dic kvs =>
        simp only [W.truth, hc, Option.some.injEq] at h
        obtain ⟨kws, e, r, _⟩ := s.cell n a _ h1 hc
        refine .inr (.inr ⟨kws, e, ?_⟩)
        have : kvs.isEmpty = kws.isEmpty := by cases kvs <;> cases kws <;> simp at r ⊢
        rw [← h, this]
def qTru (K : Bool → Store → Prop) : WK := fun x S1 => onSome (x.truth S1) fun k => K k S1
def zTru (ta : ZE) : ZT := fun L S K => ta L S (qTru K)
/-- an expression that gives a bool -/
def qTb (K : Bool → Store → Prop) : WK := fun x S1 => onBl (fun k => K k S1) x
def zTb (ta : ZE) : ZT := fun L S K => ta L S (qTb K)
theorem z_truth (ha : ZPE TB X a ta) (he : ∀ whole, isTrue a X.env whole = (do let v ← whole; standAt a.pos; holding [v] (truthy v)) := by intro _; rfl) : ZPT TB X a (zTru ta) :=
  ⟨(pt_truth ha.pe he).conv fun σ H Q ⟨L, S, A, Kc, s, l, h, hQ⟩ => ⟨L, S, A, _, s, l, h, fun v1 H1 ⟨A1, S1, w1, ea1, eh1, s1, r1, h0⟩ => let ⟨k, h1, h2⟩ := onSome_ex h0; ⟨k, tru_of s1 r1 h1, hQ _ _ ⟨A1, S1, ea1, eh1, s1, h2⟩⟩⟩⟩
theorem z_tcmp {op : CmpOp} {r : Z2'} (ho : ZO2 TB X (compareOp op) r) (ha : ZPE TB X a ta) (hb : ZPE TB X b tb) (hm : behindInMarks op b = false) : ZPT TB X (.Compare a [op] [b] pos) (zTb (zOp r ta tb)) :=
  ⟨(pt_cmpR ho.ok ha.pe hb.pe hm).conv fun σ H Q ⟨L, S, A, Kc, s, l, h, hQ⟩ => low_op ⟨L, S, A, _, s, l, h, fun v1 H1 ⟨A1, S1, w1, ea1, eh1, s1, r1, h0⟩ => by
    obtain ⟨k, h1, h2⟩ := onBl_ex h0
    subst h1
    cases r1
    exact ⟨k, rfl, hQ _ _ ⟨A1, S1, ea1, eh1, s1, h2⟩⟩⟩⟩
def zChain (r r' : Z2') (ta tb tc : ZE) : ZE := fun L S K => ta L S fun x S1 => tb L S1 fun y S2 => r x y S2 fun z S3 => onBl (fun k => qIf k (tc L S3 fun c S4 => r' y c S4 K) (K (.bl false) S3)) z
end
end Z

set_option maxHeartbeats 2000000
/-! Z3: operators by values. -/
namespace Z
open PySem PySem.Spec PyProof.Rows L2

section
variable {X : Cx} {TB : List Addr}

/-! ### + - * // % and bits -/
@[irreducible] def qCat (n m : Nat) (S : Store) (K : WK) : Prop := Bx (∃ xs ys, S[n]? = some (.lst xs) ∧ S[m]? = some (.lst ys) ∧ xs.length + ys.length ≤ sizeLine ∧ K (.ref S.length) (S ++ [.lst (xs ++ ys)]))
def qAdd : Z2' := fun x y S K => match x, y with
  | .int i, .int j => K (.int (i + j)) S
  | .int i, .bl b => K (.int (i + if b then 1 else 0)) S
  | .str a, .str b => a.length + b.length ≤ sizeLine ∧ K (.str (a ++ b)) S
  | .tup a, .tup b => a.length + b.length ≤ sizeLine ∧ K (.tup (a ++ b)) S
  | .ref n, .ref m => qCat n m S K
  | _, _ => False
theorem Reps.nil_iff {K : PySem.W.Frag} {A : List Addr} {H : Hp} {ws : List W} {vs : List V} (h : Reps K A H ws vs) : vs = [] ↔ ws = [] := by cases h <;> simp
theorem zo_add : ZO2 TB X (binaryOp .Add) qAdd := by
  refine ⟨fun pins s σ H x y v u Q I rx ry h => ?_⟩
  obtain ⟨A, S, wx, wy, Kc, sk, r1, r2, h, hQ⟩ := h
  cases r1 with
  | int i =>
    cases r2 with
    | int j => exact op_add pins s σ H _ _ v u Q I rx ry ⟨i, j, rfl, rfl, hQ _ _ (.here sk (.int _) h)⟩
    | bl b => exact op_add_ib pins s σ H _ _ v u Q I rx ry ⟨i, b, rfl, rfl, hQ _ _ (by
        have e : b2i b = (if b then 1 else 0 : Int) := by cases b <;> rfl
        rw [e]; exact .here sk (.int _) h)⟩
    | _ => exact h.elim
  | str a =>
    cases r2 with
    | str b => exact op_add_str pins s σ H _ _ v u Q I rx ry ⟨a, b, rfl, rfl, h.1, hQ _ _ (.here sk (.str _) h.2)⟩
    | _ => exact h.elim
  | tup h1 q1 =>
    cases r2 with
    | tup h2 q2 =>
      refine op_catA pins s σ H _ _ v u Q I rx ry ⟨_, _, _, _, rfl, rfl, h1.sq, h2.sq, by rw [← q1.length, ← q2.length]; exact h.1, fun e => hQ _ _ ?_, fun _ e => hQ _ _ ?_, fun _ _ p hp => hQ _ _ ?_⟩
      · have := q1.nil_iff.mp e
        subst this
        exact .here sk (.tup h2 q2) h.2
      · have := q2.nil_iff.mp e
        subst this
        have h' := h.2
        rw [List.append_nil] at h'
        exact .here sk (.tup h1 q1) h'
      · exact .tup sk (q1.append q2) hp h.2
    | _ => exact h.elim
  | @ref a n h1 =>
    cases r2 with
    | @ref b m h2 =>
      have h9 : qCat n m S Kc := h
      unfold qCat at h9
      replace h9 := h9.ok
      obtain ⟨xs, ys, e1, e2, hz, k⟩ := h9
      obtain ⟨vs, f1, q1⟩ := sk.lst h1 e1
      obtain ⟨us, f2, q2⟩ := sk.lst h2 e2
      exact op_cat pins s σ H _ _ v u Q I rx ry ⟨_, _, _, _, rfl, rfl, f1, f2, by rw [← q1.length, ← q2.length]; exact hz, fun p hp => hQ _ _ (.lst sk (q1.append q2) hp k)⟩
    | _ => exact h.elim
  | _ => exact h.elim
def qSub : Z2' := fun x y S K => match x, y with
  | .int i, .int j => K (.int (i - j)) S
  | _, _ => False
theorem zo_sub : ZO2 TB X (binaryOp .Sub) qSub := by
  refine ⟨fun pins s σ H x y v u Q I rx ry h => ?_⟩
  obtain ⟨A, S, wx, wy, Kc, sk, r1, r2, h, hQ⟩ := h
  cases r1 with
  | int i =>
    cases r2 with
    | int j => exact op_sub pins s σ H _ _ v u Q I rx ry ⟨i, j, rfl, rfl, hQ _ _ (.here sk (.int _) h)⟩
    | _ => exact h.elim
  | _ => exact h.elim
/-- when a product is told: one side below 2^64, or both below a million bits -/
def MulOk (i j : Int) : Prop := (-(2 ^ 64) < i ∧ i < 2 ^ 64) ∨ (-(2 ^ 64) < j ∧ j < 2 ^ 64) ∨ i.natAbs.log2 + j.natAbs.log2 < 1000000
theorem op_mulA : OpR X (binaryOp .Mult) (rI MulOk fun i j => .int (i * j)) := by
  intro pins s σ H x y v u Q I rx ry h
  obtain ⟨i, j, e1, e2, hc, q⟩ := h
  rcases hc with hc | hc | hc
  · exact op_mul pins s σ H x y v u Q I rx ry ⟨i, j, e1, e2, .inl hc, q⟩
  · exact op_mul pins s σ H x y v u Q I rx ry ⟨i, j, e1, e2, .inr hc, q⟩
  · exact op_mulW pins s σ H x y v u Q I rx ry ⟨i, j, e1, e2, hc, q⟩
/-- xs k times -/
def times {α : Type} (xs : List α) (k : Int) : List α := (List.replicate k.toNat xs).flatten
def qMul : Z2' := fun x y S K => match x, y with
  | .int i, .int j => MulOk i j ∧ K (.int (i * j)) S
  | .tup xs, .int k => -1000 ≤ k ∧ k ≤ 1000 ∧ xs.length ≤ 1000 ∧ xs ≠ [] ∧ K (.tup (times xs k)) S
  | .ref n, .int k => ∃ xs, S[n]? = some (.lst xs) ∧ -(2 ^ 63) ≤ k ∧ k < 2 ^ 63 ∧ xs.length * k.toNat ≤ sizeLine ∧ K (.ref S.length) (S ++ [.lst (times xs k)])
  | _, _ => False
theorem Reps.rep {K : PySem.W.Frag} {A : List Addr} {H : Hp} {ws : List W} {vs : List V} (h : Reps K A H ws vs) : ∀ k : Nat, Reps K A H (List.replicate k ws).flatten (List.replicate k vs).flatten
  | 0 => .nil
  | k + 1 => by
    rw [List.replicate_succ, List.replicate_succ, List.flatten_cons, List.flatten_cons]
    exact h.append (Reps.rep h k)
theorem zo_mul : ZO2 TB X (binaryOp .Mult) qMul := by
  refine ⟨fun pins s σ H x y v u Q I rx ry h => ?_⟩
  obtain ⟨A, S, wx, wy, Kc, sk, r1, r2, h, hQ⟩ := h
  cases r1 with
  | int i =>
    cases r2 with
    | int j => exact op_mulA pins s σ H _ _ v u Q I rx ry ⟨i, j, rfl, rfl, h.1, hQ _ _ (.here sk (.int _) h.2)⟩
    | _ => exact h.elim
  | tup h1 q1 =>
    cases r2 with
    | int k =>
      obtain ⟨a1, a2, a3, a4, a5⟩ := h
      by_cases hk : k ≤ 0
      · refine op_repT0 pins s σ H _ _ v u Q I rx ry ⟨_, k, _, rfl, rfl, h1.sq, fun e => a4 (q1.nil_iff.mp e), by omega, hk, fun p hp => hQ _ _ (.tup sk .nil hp ?_)⟩
        have e : ∀ xs : List W, times xs k = ([] : List W) := fun xs => by unfold times; rw [show k.toNat = 0 by omega]; rfl
        rw [e] at a5
        exact a5
      · by_cases hk1 : k = 1
        · subst hk1
          refine op_repT1 pins s σ H _ _ v u Q I rx ry ⟨_, _, rfl, rfl, h1.sq, hQ _ _ (.here sk (.tup h1 q1) ?_)⟩
          have e : ∀ xs : List W, times xs 1 = xs := fun xs => by unfold times; simp
          rw [e] at a5
          exact a5
        · exact op_repT pins s σ H _ _ v u Q I rx ry ⟨_, k, _, rfl, rfl, h1.sq, fun e => a4 (q1.nil_iff.mp e), by omega, a2, by rw [← q1.length]; exact a3, fun p hp => hQ _ _ (.tup sk (q1.rep _) hp a5)⟩
    | _ => exact h.elim
  | @ref a n h1 =>
    cases r2 with
    | int k =>
      obtain ⟨xs, e1, a1, a2, a3, a5⟩ := h
      obtain ⟨vs, f1, q1⟩ := sk.lst h1 e1
      exact op_rep pins s σ H _ _ v u Q I rx ry ⟨_, k, _, rfl, rfl, f1, a1, a2, by rw [← q1.length]; exact a3, fun p hp => hQ _ _ (.lst sk (q1.rep _) hp a5)⟩
    | _ => exact h.elim
  | _ => exact h.elim
/-- a divisor that is told -/
def DivOk (_ j : Int) : Prop := 0 < j ∧ j.natAbs.log2 < 9000
def qDiv : Z2' := fun x y S K => match x, y with
  | .int i, .int j => DivOk i j ∧ K (.int (i / j)) S
  | _, _ => False
theorem zo_div : ZO2 TB X (binaryOp .FloorDiv) qDiv := by
  refine ⟨fun pins s σ H x y v u Q I rx ry h => ?_⟩
  obtain ⟨A, S, wx, wy, Kc, sk, r1, r2, h, hQ⟩ := h
  cases r1 with
  | int i =>
    cases r2 with
    | int j => exact op_fdivW pins s σ H _ _ v u Q I rx ry ⟨i, j, rfl, rfl, h.1, hQ _ _ (.here sk (.int _) h.2)⟩
    | _ => exact h.elim
  | _ => exact h.elim
def qMod : Z2' := fun x y S K => match x, y with
  | .int i, .int j => 0 < j ∧ K (.int (i % j)) S
  | _, _ => False
theorem zo_mod : ZO2 TB X (binaryOp .Mod) qMod := by
  refine ⟨fun pins s σ H x y v u Q I rx ry h => ?_⟩
  obtain ⟨A, S, wx, wy, Kc, sk, r1, r2, h, hQ⟩ := h
  cases r1 with
  | int i =>
    cases r2 with
    | int j => exact op_mod pins s σ H _ _ v u Q I rx ry ⟨i, j, rfl, rfl, h.1, hQ _ _ (.here sk (.int _) h.2)⟩
    | _ => exact h.elim
  | _ => exact h.elim
def PowOk (i j : Int) : Prop := 0 ≤ j ∧ j ≤ 1000000 ∧ i.natAbs < 2 ^ 64
def qIC (C : Int → Int → Prop) (g : Int → Int → Int) : Z2' := fun x y S K => match x, y with
  | .int i, .int j => C i j ∧ K (.int (g i j)) S
  | _, _ => False
theorem zo_ic {f : Value → Value → Sem Value} {C : Int → Int → Prop} {g : Int → Int → Int} (h0 : OpR X f (rI C fun i j => .int (g i j))) : ZO2 TB X f (qIC C g) := by
  refine ⟨fun pins s σ H x y v u Q I rx ry h => ?_⟩
  obtain ⟨A, S, wx, wy, Kc, sk, r1, r2, h, hQ⟩ := h
  cases r1 with
  | int i =>
    cases r2 with
    | int j => exact h0 pins s σ H _ _ v u Q I rx ry ⟨i, j, rfl, rfl, h.1, hQ _ _ (.here sk (.int _) h.2)⟩
    | _ => exact h.elim
  | _ => exact h.elim
def qI0' (g : Int → Int → Int) : Z2' := fun x y S K => match x, y with
  | .int i, .int j => K (.int (g i j)) S
  | _, _ => False
theorem zo_i0 {f : Value → Value → Sem Value} {g : Int → Int → Int} (h0 : OpR X f (rI0 fun i j => .int (g i j))) : ZO2 TB X f (qI0' g) := by
  refine ⟨fun pins s σ H x y v u Q I rx ry h => ?_⟩
  obtain ⟨A, S, wx, wy, Kc, sk, r1, r2, h, hQ⟩ := h
  cases r1 with
  | int i =>
    cases r2 with
    | int j => exact h0 pins s σ H _ _ v u Q I rx ry ⟨i, j, rfl, rfl, hQ _ _ (.here sk (.int _) h)⟩
    | _ => exact h.elim
  | _ => exact h.elim
def qPow : Z2' := qIC PowOk fun i j => i ^ j.toNat
theorem zo_pow : ZO2 TB X (binaryOp .Pow) qPow := zo_ic op_pow
def qShl : Z2' := qIC PowOk fun i j => i * 2 ^ j.toNat
theorem zo_shl : ZO2 TB X (binaryOp .LShift) qShl := zo_ic op_shl
def qShr : Z2' := qIC (fun _ j => 0 ≤ j) fun i j => i / 2 ^ j.toNat
theorem zo_shr : ZO2 TB X (binaryOp .RShift) qShr := zo_ic op_shr
def qAnd : Z2' := qI0' Builtin.bitAnd
theorem zo_and : ZO2 TB X (binaryOp .BitAnd) qAnd := zo_i0 op_and
def qOr : Z2' := qI0' Builtin.bitOr
theorem zo_or : ZO2 TB X (binaryOp .BitOr) qOr := zo_i0 op_or
def qXor : Z2' := qI0' Builtin.bitXor
theorem zo_xor : ZO2 TB X (binaryOp .BitXor) qXor := zo_i0 op_xor
def qNeg : Z1' := fun x S K => match x with
  | .int i => K (.int (-i)) S
  | _ => False
theorem zo_neg : ZO1 TB X (unaryOp .USub) qNeg := by
  refine ⟨fun pins s σ H x v Q I rx h => ?_⟩
  obtain ⟨A, S, wx, Kc, sk, r1, h, hQ⟩ := h
  cases r1 with
  | int i => exact un_neg pins s σ H _ v Q I rx ⟨i, rfl, hQ _ _ (.here sk (.int _) h)⟩
  | _ => exact h.elim

/-! ### comparisons -/
def qIB (g : Int → Int → Bool) (t : List W → List W → Bool → Prop) (st : Str → Str → Bool) : Z2' := fun x y S K => match x, y with
  | .int i, .int j => K (.bl (g i j)) S
  | .str a, .str b => K (.bl (st a b)) S
  | .tup a, .tup b => ∃ k, t a b k ∧ K (.bl k) S
  | _, _ => False
/-- < of tuples of ints -/
def LexLt (a b : List W) (k : Bool) : Prop := ∃ ns ms, a = ns.map W.int ∧ b = ms.map W.int ∧ k = HT.lexLt ns ms
theorem Reps.ints {K : PySem.W.Frag} {A : List Addr} {H : Hp} : ∀ {ns : List Int} {vs : List V}, Reps K A H (ns.map W.int) vs → vs = ns.map V.int
  | [], _, .nil => rfl
  | n :: ns, _, .cons (.int _) t => by rw [List.map_cons, Reps.ints t]
def NoTup : List W → List W → Bool → Prop := fun _ _ _ => False
def qLt : Z2' := qIB (fun i j => decide (i < j)) LexLt fun a b => decide (a.cps.toList < b.cps.toList)
theorem zo_lt (hu : X.A.units < cLine) : ZO2 TB X (compareOp .Lt) qLt := by
  refine ⟨fun pins s σ H x y v u Q I rx ry h => ?_⟩
  obtain ⟨A, S, wx, wy, Kc, sk, r1, r2, h, hQ⟩ := h
  cases r1 with
  | int i =>
    cases r2 with
    | int j => exact op_lt pins s σ H _ _ v u Q I rx ry ⟨i, j, rfl, rfl, hQ _ _ (.here sk (.bl _) h)⟩
    | _ => exact h.elim
  | str i =>
    cases r2 with
    | str j => exact op_lt_str pins s σ H _ _ v u Q I rx ry ⟨i, j, rfl, rfl, hQ _ _ (.here sk (.bl _) h)⟩
    | _ => exact h.elim
  | tup h1 q1 =>
    cases r2 with
    | tup h2 q2 =>
      obtain ⟨k, ⟨ns, ms, rfl, rfl, rfl⟩, h⟩ := h
      have e1 := q1.ints
      have e2 := q2.ints
      subst e1 e2
      exact op_ltT hu pins s σ H _ _ v u Q I rx ry ⟨_, _, ns, ms, rfl, rfl, h1.sq, h2.sq, hQ _ _ (.here sk (.bl _) h)⟩
    | _ => exact h.elim
  | _ => exact h.elim
def qLe : Z2' := qIB (fun i j => decide (i ≤ j)) NoTup fun a b => decide (a.cps.toList ≤ b.cps.toList)
def qGt : Z2' := fun x y S K => match x, y with
  | .int i, .int j => K (.bl (decide (j < i))) S
  | _, _ => False
def qGe : Z2' := fun x y S K => match x, y with
  | .int i, .int j => K (.bl (decide (j ≤ i))) S
  | _, _ => False
def qLeI : Z2' := fun x y S K => match x, y with
  | .int i, .int j => K (.bl (decide (i ≤ j))) S
  | _, _ => False
theorem zo_le : ZO2 TB X (compareOp .LtE) qLeI := by
  refine ⟨fun pins s σ H x y v u Q I rx ry h => ?_⟩
  obtain ⟨A, S, wx, wy, Kc, sk, r1, r2, h, hQ⟩ := h
  cases r1 with
  | int i =>
    cases r2 with
    | int j => exact op_le pins s σ H _ _ v u Q I rx ry ⟨i, j, rfl, rfl, hQ _ _ (.here sk (.bl _) h)⟩
    | _ => exact h.elim
  | _ => exact h.elim
theorem zo_gt : ZO2 TB X (compareOp .Gt) qGt := by
  refine ⟨fun pins s σ H x y v u Q I rx ry h => ?_⟩
  obtain ⟨A, S, wx, wy, Kc, sk, r1, r2, h, hQ⟩ := h
  cases r1 with
  | int i =>
    cases r2 with
    | int j => exact op_gt pins s σ H _ _ v u Q I rx ry ⟨i, j, rfl, rfl, hQ _ _ (.here sk (.bl _) h)⟩
    | _ => exact h.elim
  | _ => exact h.elim
theorem zo_ge : ZO2 TB X (compareOp .GtE) qGe := by
  refine ⟨fun pins s σ H x y v u Q I rx ry h => ?_⟩
  obtain ⟨A, S, wx, wy, Kc, sk, r1, r2, h, hQ⟩ := h
  cases r1 with
  | int i =>
    cases r2 with
    | int j => exact op_ge pins s σ H _ _ v u Q I rx ry ⟨i, j, rfl, rfl, hQ _ _ (.here sk (.bl _) h)⟩
    | _ => exact h.elim
  | _ => exact h.elim

end
end Z

set_option maxHeartbeats 2000000
/-! Z4: equality and membership of data, subscripts, slices, displays, and / or / not, built-in calls, methods. -/
namespace Z
open PySem PySem.Spec PyProof.Rows L2

mutual
/-- a value as data, the store's lists within -/
inductive DataOf (S : Store) : W → PyData → Prop
  | non : DataOf S .non .none
  | bl (b : Bool) : DataOf S (.bl b) (.bool b)
  | int (i : Int) : DataOf S (.int i) (.int i)
  | str (x : Str) : DataOf S (.str x) (.str x)
  | tup {xs : List W} {ds : List PyData} : DataAll S xs ds → DataOf S (.tup xs) (.tuple ds)
  | ref {n : Nat} {xs : List W} {ds : List PyData} : IsLst S n xs → DataAll S xs ds → DataOf S (.ref n) (.list ds)
inductive DataAll (S : Store) : List W → List PyData → Prop
  | nil : DataAll S [] []
  | cons {x : W} {xs : List W} {d : PyData} {ds : List PyData} : DataOf S x d → DataAll S xs ds → DataAll S (x :: xs) (d :: ds)
end
section
variable {K : PySem.W.Frag} {TB A : List Addr} {S : Store} {H : Hp}
mutual
theorem DataOf.dp (s : SOk K TB A S H) : ∀ {w : W} {d : PyData} {v : V}, DataOf S w d → Rep K A H w v → Dp K H v d
  | _, _, _, .non, .non => .non
  | _, _, _, .bl b, .bl _ => .bl b
  | _, _, _, .int b, .int _ => .int b
  | _, _, _, .str b, .str _ => .str b
  | _, _, _, .tup h, .tup t r => .tup t.sq (DataAll.dp s h r)
  | _, _, _, .ref e h, .ref t => let ⟨_, q, r⟩ := s.seq t e; .lst q (DataAll.dp s h r)
theorem DataAll.dp (s : SOk K TB A S H) : ∀ {ws : List W} {ds : List PyData} {vs : List V}, DataAll S ws ds → Reps K A H ws vs → DpAll K H vs ds
  | _, _, _, .nil, .nil => .nil
  | _, _, _, .cons h t, .cons r q => .cons (DataOf.dp s h r) (DataAll.dp s t q)
end
mutual
theorem DataOf.fn : ∀ {w : W} {d e : PyData}, DataOf S w d → DataOf S w e → d = e
  | _, _, _, .non, .non => rfl
  | _, _, _, .bl b, .bl _ => rfl
  | _, _, _, .int b, .int _ => rfl
  | _, _, _, .str b, .str _ => rfl
  | _, _, _, .tup h, .tup r => by rw [DataAll.fn h r]
  | _, _, _, .ref e h, .ref e' h' => by
    have q := e.symm.trans e'
    cases q
    rw [DataAll.fn h h']
theorem DataAll.fn : ∀ {ws : List W} {ds es : List PyData}, DataAll S ws ds → DataAll S ws es → ds = es
  | _, _, _, .nil, .nil => rfl
  | _, _, _, .cons h t, .cons r q => by rw [DataOf.fn h r, DataAll.fn t q]
end
end

section
variable {X : Cx} {TB : List Addr} {a b c e : Expr} {es : List Expr} {ta tb tc te : ZE} {t u : ZT} {pos : Pos}
@[irreducible] def qEq (neg : Bool) : Z2' := fun x y S K => Bx (∃ d e, DataOf S x d ∧ DataOf S y e ∧ SeqAt.shaped d = true ∧ SeqAt.shaped e = true ∧ K (.bl (neg ^^ PyData.eqv d e)) S)
theorem zo_eq (hu : X.A.units + 64 < cLine) : ZO2 TB X (compareOp .Eq) (qEq false) := by
  refine ⟨fun pins s σ H x y v u Q I rx ry h => ?_⟩
  obtain ⟨A, S, wx, wy, Kc, sk, r1, r2, h, hQ⟩ := h
  unfold qEq at h
  replace h := h.ok
  obtain ⟨d, e, h1, h2, s1, s2, h⟩ := h
  rw [Bool.false_xor] at h
  exact op_eqD hu pins s σ H _ _ v u Q I rx ry ⟨d, e, h1.dp sk r1, h2.dp sk r2, s1, s2, hQ _ _ (.here sk (.bl _) h)⟩
theorem zo_ne (hu : X.A.units + 64 < cLine) : ZO2 TB X (compareOp .NotEq) (qEq true) := by
  refine ⟨fun pins s σ H x y v u Q I rx ry h => ?_⟩
  obtain ⟨A, S, wx, wy, Kc, sk, r1, r2, h, hQ⟩ := h
  unfold qEq at h
  replace h := h.ok
  obtain ⟨d, e, h1, h2, s1, s2, h⟩ := h
  rw [Bool.true_xor] at h
  exact op_neD hu pins s σ H _ _ v u Q I rx ry ⟨d, e, h1.dp sk r1, h2.dp sk r2, s1, s2, hQ _ _ (.here sk (.bl _) h)⟩
/-- x in y: y a list or a tuple, a text -/
@[irreducible] def qIn (neg : Bool) : Z2' := fun x y S K => Bx ((∃ d ds, DataOf S x d ∧ (DataOf S y (.list ds) ∨ DataOf S y (.tuple ds)) ∧ SeqAt.shaped d = true ∧ SeqAt.shaped (.list ds) = true ∧ K (.bl (neg ^^ ds.any fun z => PyData.eqv z d)) S) ∨
  ∃ i j, x = .str i ∧ y = .str j ∧ K (.bl (neg ^^ !(Builtin.Str.occurrences j i 0 j.length 1).isEmpty)) S)
theorem shaped_list_tuple {ds : List PyData} (h : SeqAt.shaped (.list ds) = true) : PyData.canLayAll0 ds = true := SeqAt.canLay_of_shaped h
theorem zo_in (hu : X.A.units + 65 < cLine) : ZO2 TB X (compareOp .In) (qIn false) := by
  refine ⟨fun pins s σ H x y v u Q I rx ry h => ?_⟩
  obtain ⟨A, S, wx, wy, Kc, sk, r1, r2, h, hQ⟩ := h
  unfold qIn at h
  replace h := h.ok
  rcases h with ⟨d, ds, h1, h2 | h2, s1, s2, h⟩ | ⟨i, j, rfl, rfl, h⟩
  · rw [Bool.false_xor] at h
    exact op_inD hu pins s σ H _ _ v u Q I rx ry ⟨d, ds, h1.dp sk r1, h2.dp sk r2, s1, s2, hQ _ _ (.here sk (.bl _) h)⟩
  · rw [Bool.false_xor] at h
    obtain ⟨as, q1⟩ := Dp.reads I d x v (h1.dp sk r1) rx
    obtain ⟨bs, q2⟩ := Dp.reads I (.tuple ds) y u (h2.dp sk r2) ry
    exact SeqAt.in_tuple_reads q2 q1 (SeqAt.canLay_of_shaped s2) (SeqAt.canLay_of_shaped s1) (room_in_shaped s1 hu) ⟨.bl _, H, I, rfl, hQ _ _ (.here sk (.bl _) h)⟩
  · rw [Bool.false_xor] at h
    cases r1
    cases r2
    exact op_in_str pins s σ H _ _ v u Q I rx ry ⟨i, j, rfl, rfl, hQ _ _ (.here sk (.bl _) h)⟩
theorem zo_notin (hu : X.A.units + 65 < cLine) : ZO2 TB X (compareOp .NotIn) (qIn true) := by
  refine ⟨fun pins s σ H x y v u Q I rx ry h => ?_⟩
  obtain ⟨A, S, wx, wy, Kc, sk, r1, r2, h, hQ⟩ := h
  unfold qIn at h
  replace h := h.ok
  rcases h with ⟨d, ds, h1, h2 | h2, s1, s2, h⟩ | ⟨i, j, rfl, rfl, h⟩
  · rw [Bool.true_xor] at h
    exact op_notInD hu pins s σ H _ _ v u Q I rx ry ⟨d, ds, h1.dp sk r1, h2.dp sk r2, s1, s2, hQ _ _ (.here sk (.bl _) h)⟩
  · rw [Bool.true_xor] at h
    obtain ⟨as, q1⟩ := Dp.reads I d x v (h1.dp sk r1) rx
    obtain ⟨bs, q2⟩ := Dp.reads I (.tuple ds) y u (h2.dp sk r2) ry
    exact SeqAt.notIn_tuple_reads q2 q1 (SeqAt.canLay_of_shaped s2) (SeqAt.canLay_of_shaped s1) (room_in_shaped s1 hu) ⟨.bl _, H, I, rfl, hQ _ _ (.here sk (.bl _) h)⟩
  · rw [Bool.true_xor] at h
    cases r1
    cases r2
    exact op_notIn_str pins s σ H _ _ v u Q I rx ry ⟨i, j, rfl, rfl, hQ _ _ (.here sk (.bl _) h)⟩
/-- is None -/
def isNon : W → Bool
  | .non => true
  | _ => false
@[irreducible] def qIsN (neg : Bool) : Z2' := fun x y S K => Bx (y = .non ∧ K (.bl (neg ^^ isNon x)) S)
theorem Rep.non_iff {K : PySem.W.Frag} {A : List Addr} {H : Hp} {w : W} {v : V} (r : Rep K A H w v) : decide (v = .non) = isNon w := by cases r <;> simp [isNon]
theorem zo_is : ZO2 TB X (compareOp .Is) (qIsN false) := by
  refine ⟨fun pins s σ H x y v u Q I rx ry h => ?_⟩
  obtain ⟨A, S, wx, wy, Kc, sk, r1, r2, h, hQ⟩ := h
  unfold qIsN at h
  replace h := h.ok
  obtain ⟨rfl, h⟩ := h
  cases r2
  rw [Bool.false_xor, ← r1.non_iff] at h
  exact op_isN pins s σ H _ _ v u Q I rx ry ⟨rfl, hQ _ _ (.here sk (.bl _) h)⟩
theorem zo_isnot : ZO2 TB X (compareOp .IsNot) (qIsN true) := by
  refine ⟨fun pins s σ H x y v u Q I rx ry h => ?_⟩
  obtain ⟨A, S, wx, wy, Kc, sk, r1, r2, h, hQ⟩ := h
  unfold qIsN at h
  replace h := h.ok
  obtain ⟨rfl, h⟩ := h
  cases r2
  rw [Bool.true_xor, ← r1.non_iff] at h
  exact op_notN pins s σ H _ _ v u Q I rx ry ⟨rfl, hQ _ _ (.here sk (.bl _) h)⟩
/-- a < b < c -/
theorem low_chain {r r' : Z2'} {σ : L2.St} {H : Hp} {Q : VK} (h : low X.K TB (zChain r r' ta tb tc) σ H Q) : tChain (low2 X.K TB r) (low2 X.K TB r') (low X.K TB ta) (low X.K TB tb) (low X.K TB tc) σ H Q := by
  obtain ⟨L, S, A, Kc, s, l, h, hQ⟩ := h
  refine ⟨L, S, A, _, s, l, h, fun v1 H1 ⟨A1, S1, w1, ea1, eh1, s1, r1, h1⟩ => ?_⟩
  refine ⟨L, S1, A1, _, s1, l.mono ea1 eh1, h1, fun v2 H2 ⟨A2, S2, w2, ea2, eh2, s2, r2, h2⟩ => ?_⟩
  refine ⟨A2, S2, w1, w2, _, s2, r1.mono ea2 eh2, r2, h2, fun v3 H3 ⟨A3, S3, w3, ea3, eh3, s3, r3, h0⟩ => ?_⟩
  obtain ⟨k, e, h3⟩ := onBl_ex h0
  subst e
  cases r3
  refine ⟨k, rfl, ?_⟩
  have EA := (ea1.trans ea2).trans ea3
  have EH := (eh1.trans eh2).trans eh3
  cases k with
  | true =>
    rw [qIf_t] at h3
    rw [if_pos rfl]
    refine ⟨L, S3, A3, _, s3, l.mono EA EH, h3, fun v4 H4 ⟨A4, S4, w4, ea4, eh4, s4, r4, h4⟩ => ?_⟩
    exact ⟨A4, S4, w2, w4, Kc, s4, r2.mono (ea3.trans ea4) (eh3.trans eh4), r4, h4, fun v H' q => hQ v H' ((q.on ea4 eh4).on EA EH)⟩
  | false =>
    rw [qIf_f] at h3
    rw [if_neg Bool.false_ne_true]
    exact hQ _ _ ((Aft.here s3 (.bl false) h3).on EA EH)
theorem z_chain {op op' : CmpOp} {r r' : Z2'} (ho : ZO2 TB X (compareOp op) r) (ho' : ZO2 TB X (compareOp op') r') (ha : ZPE TB X a ta) (hb : ZPE TB X b tb) (hc : ZPE TB X c tc)
    (hm : lastMarks [op, op'] [b, c] = false := by with_unfolding_all rfl) : ZPE TB X (.Compare a [op, op'] [b, c] pos) (zChain r r' ta tb tc) :=
  ⟨(pe_chain ho.ok ho'.ok ha.pe hb.pe hc.pe hm).conv fun σ H Q h => low_chain h⟩
theorem z_tchain {op op' : CmpOp} {r r' : Z2'} (ho : ZO2 TB X (compareOp op) r) (ho' : ZO2 TB X (compareOp op') r') (ha : ZPE TB X a ta) (hb : ZPE TB X b tb) (hc : ZPE TB X c tc)
    (hm : lastMarks [op, op'] [b, c] = false := by with_unfolding_all rfl) : ZPT TB X (.Compare a [op, op'] [b, c] pos) (zTb (zChain r r' ta tb tc)) :=
  ⟨(pt_chain ho.ok ho'.ok ha.pe hb.pe hc.pe hm).conv fun σ H Q ⟨L, S, A, Kc, s, l, h, hQ⟩ => low_chain ⟨L, S, A, _, s, l, h, fun v1 H1 ⟨A1, S1, w1, ea1, eh1, s1, r1, h0⟩ => by
    obtain ⟨k, h1, h2⟩ := onBl_ex h0
    subst h1
    cases r1
    exact ⟨k, rfl, hQ _ _ ⟨A1, S1, ea1, eh1, s1, h2⟩⟩⟩⟩

/-! ### subscripts, slices -/
@[irreducible] def qIx : Z2' := fun x y S K => Bx (match x, y with
  | .tup xs, .int i => ∃ w, atI xs i = some w ∧ K w S
  | .ref n, .int i => ∃ xs, IsLst S n xs ∧ ∃ w, atI xs i = some w ∧ K w S
  | .str z, .int i => ∃ c, z.length ≤ sizeLine ∧ atI z.cps.toList i = some c ∧ K (.str ⟨#[c]⟩) S
  | _, _ => False)
theorem Reps.atI {K : PySem.W.Frag} {A : List Addr} {H : Hp} {ws : List W} {vs : List V} {i : Int} {w : W} (h : Reps K A H ws vs) (e : atI ws i = some w) : ∃ v, L2.atI vs i = some v ∧ Rep K A H w v := by
  unfold L2.atI at e ⊢
  rw [← h.length]
  cases hx : ixN ws.length i with
  | none => rw [hx] at e; cases e
  | some j =>
    rw [hx] at e
    exact h.get e
theorem zi_any : IxR X (low2 X.K TB qIx) := by
  intro value slice pins s σ H x y v u Q I rx ry h hs
  obtain ⟨A, S, wx, wy, Kc, sk, r1, r2, h, hQ⟩ := h
  unfold qIx at h
  replace h := h.ok
  cases r1 with
  | tup h1 q1 =>
    cases r2 with
    | int i =>
      obtain ⟨w, e, k⟩ := h
      obtain ⟨v', e', r⟩ := q1.atI e
      exact ix_tup value slice pins s σ H _ _ v u Q I rx ry ⟨_, _, i, v', rfl, rfl, h1.sq, e', hQ _ _ (.here sk r k)⟩ hs
    | _ => exact False.elim h
  | ref h1 =>
    cases r2 with
    | int i =>
      obtain ⟨xs, hl, w, e, k⟩ := h
      obtain ⟨vs, hq, q1⟩ := sk.seq h1 hl
      obtain ⟨v', e', r⟩ := q1.atI e
      exact ix_list value slice pins s σ H _ _ v u Q I rx ry ⟨_, _, i, v', rfl, rfl, hq, e', hQ _ _ (.here sk r k)⟩ hs
    | _ => exact False.elim h
  | str z =>
    cases r2 with
    | int i =>
      obtain ⟨c, hz, e, k⟩ := h
      exact ix_str value slice pins s σ H _ _ v u Q I rx ry ⟨z, i, c, rfl, rfl, hz, e, hQ _ _ (.here sk (.str _) k)⟩ hs
    | _ => exact False.elim h
  | _ => exact False.elim h
/-- a slice's part -/
abbrev ZO := Loc' → Store → (Option Int → Store → Prop) → Prop
def lowO (K : PySem.W.Frag) (TB : List Addr) (t : ZO) : TO := fun σ H Q => ∃ L S A Kc, SOk K TB A S H ∧ LOk K A H L σ ∧ t L S Kc ∧ ∀ v H' A' S', AExt A A' → HExt H H' → SOk K TB A' S' H' → Kc v S' → Q v H'
structure ZPO (TB : List Addr) (X : Cx) (e : Option Expr) (t : ZO) : Prop where
  po : PO X e (lowO X.K TB t)
def zNoPart : ZO := fun _ S K => K none S
def zPart (t : ZE) : ZO := fun L S K => t L S fun x S1 => onInt (fun i => K (some i) S1) x
theorem PO.conv {oe : Option Expr} {T T' : TO} (h : PO X oe T) (c : ∀ σ H Q, T' σ H Q → T σ H Q) : PO X oe T' := ⟨fun pins s σ H Q I q => h.run pins s σ H Q I (c σ H Q q)⟩
theorem zpo_none : ZPO TB X none zNoPart := ⟨PO.conv po_none fun σ H Q ⟨L, S, A, Kc, s, l, h, hQ⟩ => hQ _ _ A S (.refl _) (.refl _) s h⟩
theorem zpo_some (h : ZPE TB X e te) : ZPO TB X (some e) (zPart te) := ⟨PO.conv (po_some h.pe) fun σ H Q ⟨L, S, A, Kc, s, l, h, hQ⟩ =>
  ⟨L, S, A, _, s, l, h, fun v1 H1 ⟨A1, S1, w1, ea1, eh1, s1, r1, h0⟩ => by obtain ⟨i, e, h1⟩ := onInt_ex h0; subst e; cases r1; exact ⟨i, rfl, hQ _ _ A1 S1 ea1 eh1 s1 h1⟩⟩⟩
/-- xs[lo:hi] -/
def cut {α : Type} (xs : List α) (lo hi : Option Int) : List α := (xs.drop (HT.sIx xs.length 0 lo)).take (HT.sIx xs.length xs.length hi - HT.sIx xs.length 0 lo)
theorem Reps.cut {K : PySem.W.Frag} {A : List Addr} {H : Hp} {ws : List W} {vs : List V} (h : Reps K A H ws vs) (lo hi : Option Int) : Reps K A H (Z.cut ws lo hi) (cutV vs lo hi) := by
  unfold Z.cut cutV
  rw [h.length]
  exact (h.drop _).take _
@[irreducible] def qSl : W → Option Int → Option Int → Store → WK → Prop := fun x lo hi S K => Bx (match x with
  | .tup xs => K (.tup (cut xs lo hi)) S
  | .ref n => ∃ xs, IsLst S n xs ∧ K (.ref S.length) (S ++ [.lst (cut xs lo hi)])
  | _ => False)
def zSl (te : ZE) (tl th : ZO) : ZE := fun L S K => te L S fun x S1 => tl L S1 fun l S2 => th L S2 fun u S3 => qSl x l u S3 K
def lowSl (K : PySem.W.Frag) (TB : List Addr) : V → Option Int → Option Int → Hp → VK → Prop := fun x lo hi H Q => ∃ A S wx Kc, SOk K TB A S H ∧ Rep K A H wx x ∧ qSl wx lo hi S Kc ∧ ∀ v H', Aft K TB A H Kc v H' → Q v H'
theorem zsl_any : SlR X (lowSl X.K TB) := by
  intro pins s σ H x v vl vu lo hi sl Q I rx hs pl pu h
  obtain ⟨A, S, wx, Kc, sk, r1, h, hQ⟩ := h
  unfold qSl at h
  replace h := h.ok
  cases r1 with
  | @tup a xs vs h1 q1 =>
    refine sl_tupA pins s σ H _ v vl vu lo hi sl Q I rx hs pl pu ⟨_, _, rfl, h1.sq, fun ⟨e1, e2⟩ => hQ _ _ ?_, fun _ p hp => hQ _ _ (.tup sk (q1.cut lo hi) hp h)⟩
    have hc : cut xs lo hi = xs := by
      unfold cut
      rw [q1.length, e1, e2]
      simp [← q1.length]
    have h' : Kc (.tup (cut xs lo hi)) S := h
    rw [hc] at h'
    exact .here sk (.tup h1 q1) h'
  | ref h1 =>
    obtain ⟨xs, hl, k⟩ := h
    obtain ⟨vs, hq, q1⟩ := sk.seq h1 hl
    exact sl_list pins s σ H _ v vl vu lo hi sl Q I rx hs pl pu ⟨_, _, rfl, hq, fun p hp => hQ _ _ (.lst sk (q1.cut lo hi) hp k)⟩
  | _ => exact False.elim h
theorem z_sl {lo hi : Option Expr} {tl th : ZO} {p2 : Pos} (he : ZPE TB X e te) (hl : ZPO TB X lo tl) (hu : ZPO TB X hi th) : ZPE TB X (.Subscript e (.Slice lo hi none p2) pos) (zSl te tl th) :=
  ⟨(pe_slice zsl_any he.pe hl.po hu.po).conv fun σ H Q ⟨L, S, A, Kc, s, l, h, hQ⟩ => ⟨L, S, A, _, s, l, h, fun v1 H1 ⟨A1, S1, w1, ea1, eh1, s1, r1, h1⟩ =>
    ⟨L, S1, A1, _, s1, l.mono ea1 eh1, h1, fun o H2 A2 S2 ea2 eh2 s2 h2 => ⟨L, S2, A2, _, s2, l.mono (ea1.trans ea2) (eh1.trans eh2), h2, fun o' H3 A3 S3 ea3 eh3 s3 h3 =>
      ⟨A3, S3, w1, Kc, s3, r1.mono (ea2.trans ea3) (eh2.trans eh3), h3, fun v H' q => hQ v H' (((q.on ea3 eh3).on ea2 eh2).on ea1 eh1)⟩⟩⟩⟩⟩

/-! ### argument lists, displays -/
def zNil : ZA := fun _ S K => K [] S
def zCons (ta : ZE) (tr : ZA) : ZA := fun L S K => ta L S fun x S1 => tr L S1 fun xs S2 => K (x :: xs) S2
theorem zpa_nil : ZPA TB X [] zNil := ⟨pa_nil.conv fun σ H Q ⟨L, S, A, Kc, s, l, h, hQ⟩ => hQ _ _ ⟨A, S, [], .refl _, .refl _, s, .nil, h⟩⟩
theorem zpa_cons {tr : ZA} (ha : ZPE TB X e te) (hr : ZPA TB X es tr) (hs : starEach (e :: es) X.env = (false, eval e X.env) :: starEach es X.env := by rfl) : ZPA TB X (e :: es) (zCons te tr) :=
  ⟨(pa_cons ha.pe hr.pa hs).conv fun σ H Q ⟨L, S, A, Kc, s, l, h, hQ⟩ => ⟨L, S, A, _, s, l, h, fun v1 H1 ⟨A1, S1, w1, ea1, eh1, s1, r1, h1⟩ =>
    ⟨L, S1, A1, _, s1, l.mono ea1 eh1, h1, fun vs H2 ⟨A2, S2, ws, ea2, eh2, s2, r2, h2⟩ => hQ _ _ ⟨A2, S2, w1 :: ws, ea1.trans ea2, eh1.trans eh2, s2, .cons (r1.mono ea2 eh2) r2, h2⟩⟩⟩⟩
def zTup (t : ZA) : ZE := fun L S K => t L S fun xs S1 => xs.length ≤ sizeLine ∧ K (.tup xs) S1
def zLst (t : ZA) : ZE := fun L S K => t L S fun xs S1 => xs.length ≤ sizeLine ∧ K (.ref S1.length) (S1 ++ [.lst xs])
theorem z_tup {x1} {t : ZA} (h : ZPA TB X es t) : ZPE TB X (.Tuple es x1 pos) (zTup t) :=
  ⟨(pe_tup h.pa).conv fun σ H Q ⟨L, S, A, Kc, s, l, h, hQ⟩ => ⟨L, S, A, _, s, l, h, fun vs H1 ⟨A1, S1, ws, ea1, eh1, s1, r1, hz, h1⟩ =>
    ⟨by rw [← r1.length]; exact hz, fun p hp => hQ _ _ ((Aft.tup s1 r1 hp h1).on ea1 eh1)⟩⟩⟩
theorem z_lst {t : ZA} (h : ZPA TB X es t) : ZPE TB X (.List es pos) (zLst t) :=
  ⟨(pe_lst h.pa).conv fun σ H Q ⟨L, S, A, Kc, s, l, h, hQ⟩ => ⟨L, S, A, _, s, l, h, fun vs H1 ⟨A1, S1, ws, ea1, eh1, s1, r1, hz, h1⟩ =>
    ⟨by rw [← r1.length]; exact hz, fun p hp => hQ _ _ ((Aft.lst s1 r1 hp h1).on ea1 eh1)⟩⟩⟩

/-! ### and, or, not, if -/
variable {rest : List Expr}
def zAnd (t u : ZT) : ZT := fun L S K => t L S fun c S1 => qIf c (u L S1 K) (K false S1)
def zOr (t u : ZT) : ZT := fun L S K => t L S fun c S1 => qIf c (K true S1) (u L S1 K)
def zNot (t : ZT) : ZT := fun L S K => t L S fun c S1 => K (!c) S1
theorem zw_and1 (ha : ZPT TB X a t) : ZPW TB X (.BoolOp .And [a] pos) t := ⟨pw_and1 ha.pt⟩
theorem zw_or1 (ha : ZPT TB X a t) : ZPW TB X (.BoolOp .Or [a] pos) t := ⟨pw_or1 ha.pt⟩
theorem zw_and (ha : ZPT TB X a t) (hb : ZPW TB X (.BoolOp .And (b :: rest) pos) u) : ZPW TB X (.BoolOp .And (a :: b :: rest) pos) (zAnd t u) :=
  ⟨(pw_and ha.pt hb.pw).conv fun σ H Q ⟨L, S, A, Kc, s, l, h, hQ⟩ => ⟨L, S, A, _, s, l, h, fun k H1 ⟨A1, S1, ea1, eh1, s1, h1⟩ => by
    cases k with
    | true =>
      rw [qIf_t] at h1
      rw [if_pos rfl]
      exact ⟨L, S1, A1, Kc, s1, l.mono ea1 eh1, h1, fun v H' q => hQ v H' (q.on ea1 eh1)⟩
    | false =>
      rw [qIf_f] at h1
      rw [if_neg Bool.false_ne_true]
      exact hQ _ _ ⟨A1, S1, ea1, eh1, s1, h1⟩⟩⟩
theorem zw_or (ha : ZPT TB X a t) (hb : ZPW TB X (.BoolOp .Or (b :: rest) pos) u) : ZPW TB X (.BoolOp .Or (a :: b :: rest) pos) (zOr t u) :=
  ⟨(pw_or ha.pt hb.pw).conv fun σ H Q ⟨L, S, A, Kc, s, l, h, hQ⟩ => ⟨L, S, A, _, s, l, h, fun k H1 ⟨A1, S1, ea1, eh1, s1, h1⟩ => by
    cases k with
    | false =>
      rw [qIf_f] at h1
      rw [if_neg Bool.false_ne_true]
      exact ⟨L, S1, A1, Kc, s1, l.mono ea1 eh1, h1, fun v H' q => hQ v H' (q.on ea1 eh1)⟩
    | true =>
      rw [qIf_t] at h1
      rw [if_pos rfl]
      exact hQ _ _ ⟨A1, S1, ea1, eh1, s1, h1⟩⟩⟩
theorem ZPW.zt (h : ZPW TB X a t) : ZPT TB X a t := ⟨h.pw.pt⟩
theorem z_tnot (ha : ZPT TB X a t) : ZPT TB X (.UnaryOp .Not a pos) (zNot t) :=
  ⟨(pt_not ha.pt).conv fun σ H Q ⟨L, S, A, Kc, s, l, h, hQ⟩ => ⟨L, S, A, _, s, l, h, fun k H1 ⟨A1, S1, ea1, eh1, s1, h1⟩ => hQ _ _ ⟨A1, S1, ea1, eh1, s1, h1⟩⟩⟩
def zNotV (ta : ZE) : ZE := fun L S K => ta L S fun x S1 => onSome (x.truth S1) fun k => K (.bl (!k)) S1
theorem z_not (ha : ZPE TB X a ta) : ZPE TB X (.UnaryOp .Not a pos) (zNotV ta) :=
  ⟨(pe_notT ha.pe).conv fun σ H Q ⟨L, S, A, Kc, s, l, h, hQ⟩ => ⟨L, S, A, _, s, l, h, fun v1 H1 ⟨A1, S1, w1, ea1, eh1, s1, r1, h0⟩ => let ⟨k, e, h1⟩ := onSome_ex h0; ⟨k, tru_of s1 r1 e, hQ _ _ ((Aft.here s1 (.bl _) h1).on ea1 eh1)⟩⟩⟩
def zAndV (ta tb : ZE) : ZE := fun L S K => ta L S fun x S1 => onSome (x.truth S1) fun k => qIf k (tb L S1 K) (K x S1)
def zOrV (ta tb : ZE) : ZE := fun L S K => ta L S fun x S1 => onSome (x.truth S1) fun k => qIf k (K x S1) (tb L S1 K)
theorem z_one {op} (h : ZPE TB X a ta) : ZPE TB X (.BoolOp op [a] pos) ta := ⟨pe_one h.pe⟩
theorem z_and (ha : ZPE TB X a ta) (hb : ZPE TB X (.BoolOp .And (b :: rest) pos) tb) : ZPE TB X (.BoolOp .And (a :: b :: rest) pos) (zAndV ta tb) :=
  ⟨(pe_andT ha.pe hb.pe).conv fun σ H Q ⟨L, S, A, Kc, s, l, h, hQ⟩ => ⟨L, S, A, _, s, l, h, fun v1 H1 ⟨A1, S1, w1, ea1, eh1, s1, r1, h0⟩ => let ⟨k, e, h1⟩ := onSome_ex h0; ⟨k, tru_of s1 r1 e, by
    cases k with
    | true =>
      rw [qIf_t] at h1
      rw [if_pos rfl]
      exact ⟨L, S1, A1, Kc, s1, l.mono ea1 eh1, h1, fun v H' q => hQ v H' (q.on ea1 eh1)⟩
    | false =>
      rw [qIf_f] at h1
      rw [if_neg Bool.false_ne_true]
      exact hQ _ _ ((Aft.here s1 r1 h1).on ea1 eh1)⟩⟩⟩
theorem z_or (ha : ZPE TB X a ta) (hb : ZPE TB X (.BoolOp .Or (b :: rest) pos) tb) : ZPE TB X (.BoolOp .Or (a :: b :: rest) pos) (zOrV ta tb) :=
  ⟨(pe_orT ha.pe hb.pe).conv fun σ H Q ⟨L, S, A, Kc, s, l, h, hQ⟩ => ⟨L, S, A, _, s, l, h, fun v1 H1 ⟨A1, S1, w1, ea1, eh1, s1, r1, h0⟩ => let ⟨k, e, h1⟩ := onSome_ex h0; ⟨k, tru_of s1 r1 e, by
    cases k with
    | false =>
      rw [qIf_f] at h1
      rw [if_neg Bool.false_ne_true]
      exact ⟨L, S1, A1, Kc, s1, l.mono ea1 eh1, h1, fun v H' q => hQ v H' (q.on ea1 eh1)⟩
    | true =>
      rw [qIf_t] at h1
      rw [if_pos rfl]
      exact hQ _ _ ((Aft.here s1 r1 h1).on ea1 eh1)⟩⟩⟩
def zIf (t : ZT) (ta tb : ZE) : ZE := fun L S K => t L S fun c S1 => qIf c (ta L S1 K) (tb L S1 K)
theorem z_if (hc : ZPT TB X c t) (ha : ZPE TB X a ta) (hb : ZPE TB X b tb) : ZPE TB X (.IfExp c a b pos) (zIf t ta tb) :=
  ⟨(pe_ifExp hc.pt ha.pe hb.pe).conv fun σ H Q ⟨L, S, A, Kc, s, l, h, hQ⟩ => ⟨L, S, A, _, s, l, h, fun k H1 ⟨A1, S1, ea1, eh1, s1, h1⟩ => by
    cases k with
    | true =>
      rw [qIf_t] at h1
      rw [if_pos rfl]
      exact ⟨L, S1, A1, Kc, s1, l.mono ea1 eh1, h1, fun v H' q => hQ v H' (q.on ea1 eh1)⟩
    | false =>
      rw [qIf_f] at h1
      rw [if_neg Bool.false_ne_true]
      exact ⟨L, S1, A1, Kc, s1, l.mono ea1 eh1, h1, fun v H' q => hQ v H' (q.on ea1 eh1)⟩⟩⟩
end
end Z

set_option maxHeartbeats 2000000
/-! Z5: calls, statements, targets. -/
namespace Z
open PySem PySem.Spec PyProof.Rows L2
section
variable {X : Cx} {TB : List Addr} {a b c e o : Expr} {es : List Expr} {ta tb tc te to : ZE} {ts : ZA} {t u : ZT} {pos p apos : Pos} {x : Str} {id T : String}
def zCall (r : ZC) (ts : ZA) : ZE := fun L S K => ts L S fun ws S1 => r ws S1 K
theorem low_call {K : PySem.W.Frag} {r : ZC} {σ : L2.St} {H : Hp} {Q : VK} (h : low K TB (zCall r ts) σ H Q) : tCB (lowC K TB r) (lowA K TB ts) σ H Q := by
  obtain ⟨L, S, A, Kc, s, l, h, hQ⟩ := h
  exact ⟨L, S, A, _, s, l, h, fun vs H1 ⟨A1, S1, ws, ea1, eh1, s1, r1, h1⟩ => ⟨A1, S1, ws, Kc, s1, r1, h1, fun v H' q => hQ v H' (q.on ea1 eh1)⟩⟩
theorem z_callB {r : ZC} (hc : ZOC TB X (.builtin id) r) (hg : Gl X x) (hm : X.mg x = none) (hv : bootBuiltins x = some (.builtin id)) (ha : ZPA TB X (e :: es) ts) (hn : x ≠ "__name__" := by decide) (hdb : (x == ("__debug__" : Str)) = false := by decide)
    (he : starEach (e :: es) X.env = (false, eval e X.env) :: starEach es X.env := by rfl) (hpl : (backTo pos (starEach es X.env)).any (·.1) = false := by rfl) : ZPE TB X (.Call (.Name x p) (e :: es) [] pos) (zCall r ts) :=
  ⟨(pe_callB hc.ok hg hm hv ha.pa hn hdb he hpl).conv fun σ H Q h => low_call h⟩
theorem z_callTy {r : ZC} (hc : ZOC TB X (.type T) r) (hg : Gl X x) (hm : X.mg x = none) (hv : bootBuiltins x = some (.type T)) (ha : ZPA TB X (e :: es) ts) (hn : x ≠ "__name__" := by decide) (hdb : (x == ("__debug__" : Str)) = false := by decide)
    (he : starEach (e :: es) X.env = (false, eval e X.env) :: starEach es X.env := by rfl) (hpl : (backTo pos (starEach es X.env)).any (·.1) = false := by rfl) : ZPE TB X (.Call (.Name x p) (e :: es) [] pos) (zCall r ts) :=
  ⟨(pe_callTy hc.ok hg hm hv ha.pa hn hdb he hpl).conv fun σ H Q h => low_call h⟩

/-! ### len, int, abs, max, min, isinstance, tuple, list, str -/
@[irreducible] def qLen : ZC := fun ws S K => Bx (match ws with
  | [.tup xs] => K (.int xs.length) S
  | [.str z] => z.length ≤ sizeLine ∧ K (.int z.length) S
  | [.ref n] => (∃ xs, IsLst S n xs ∧ K (.int xs.length) S)
  | _ => False)
theorem zc_len : ZOC TB X (.builtin "len") qLen := by
  refine ⟨fun pins s σ H xs us Q I rv h => ?_⟩
  obtain ⟨A, S, ws, Kc, sk, r, h, hQ⟩ := h
  unfold qLen at h
  replace h := h.ok
  cases r with
  | nil => exact h.elim
  | cons r rr =>
    cases rr with
    | cons _ _ => cases r <;> exact h.elim
    | nil =>
      cases r with
      | tup h1 q1 => exact call_len_seq pins s σ H _ us Q I rv ⟨_, _, rfl, .inr h1.sq, by rw [← q1.length]; exact hQ _ _ (.here sk (.int _) h)⟩
      | str z => exact call_len_str pins s σ H _ us Q I rv ⟨z, rfl, h.1, hQ _ _ (.here sk (.int _) h.2)⟩
      | ref h1 =>
        obtain ⟨ys, e1, k⟩ := h
        obtain ⟨vs, hq, q1⟩ := sk.seq h1 e1
        exact call_len_seq pins s σ H _ us Q I rv ⟨_, _, rfl, .inl hq, by rw [← q1.length]; exact hQ _ _ (.here sk (.int _) k)⟩
      | _ => exact h.elim
def qInt : ZC := fun ws S K => match ws with
  | [.int i] => K (.int i) S
  | [.bl b] => K (.int (if b then 1 else 0)) S
  | _ => False
theorem zc_int : ZOC TB X (.type "int") qInt := by
  refine ⟨fun pins s σ H xs us Q I rv h => ?_⟩
  obtain ⟨A, S, ws, Kc, sk, r, h, hQ⟩ := h
  cases r with
  | nil => exact h.elim
  | cons r rr =>
    cases rr with
    | cons _ _ => cases r <;> exact h.elim
    | nil =>
      cases r with
      | int i => exact call_int1 pins s σ H _ us Q I rv (.inl ⟨_, rfl, hQ _ _ (.here sk (.int _) h)⟩)
      | bl i => exact call_int1 pins s σ H _ us Q I rv (.inr ⟨_, rfl, hQ _ _ (.here sk (.int _) h)⟩)
      | _ => exact h.elim
def qAbs : ZC := fun ws S K => match ws with
  | [.int i] => K (.int (if i < 0 then -i else i)) S
  | _ => False
theorem zc_abs : ZOC TB X (.builtin "abs") qAbs := by
  refine ⟨fun pins s σ H xs us Q I rv h => ?_⟩
  obtain ⟨A, S, ws, Kc, sk, r, h, hQ⟩ := h
  cases r with
  | nil => exact h.elim
  | cons r rr =>
    cases rr with
    | cons _ _ => cases r <;> exact h.elim
    | nil =>
      cases r with
      | int i => exact call_abs pins s σ H _ us Q I rv ⟨_, rfl, hQ _ _ (.here sk (.int _) h)⟩
      | _ => exact h.elim
def qMax2 : ZC := fun ws S K => match ws with
  | [.int i, .int j] => K (.int (if j > i then j else i)) S
  | _ => False
def qMin2 : ZC := fun ws S K => match ws with
  | [.int i, .int j] => K (.int (if j < i then j else i)) S
  | _ => False
theorem zc_max2 (hc : X.calm = true) : ZOC TB X (.builtin "max") qMax2 := by
  refine ⟨fun pins s σ H xs us Q I rv h => ?_⟩
  obtain ⟨A, S, ws, Kc, sk, r, h, hQ⟩ := h
  unfold qMax2 at h
  split at h
  · cases r with
    | cons r1 r =>
      cases r with
      | cons r2 r =>
        cases r1
        cases r2
        cases r
        exact call_max2 hc pins s σ H _ us Q I rv ⟨_, _, rfl, hQ _ _ (.here sk (.int _) h)⟩
  · exact h.elim
theorem zc_min2 (hc : X.calm = true) : ZOC TB X (.builtin "min") qMin2 := by
  refine ⟨fun pins s σ H xs us Q I rv h => ?_⟩
  obtain ⟨A, S, ws, Kc, sk, r, h, hQ⟩ := h
  unfold qMin2 at h
  split at h
  · cases r with
    | cons r1 r =>
      cases r with
      | cons r2 r =>
        cases r1
        cases r2
        cases r
        exact call_min2 hc pins s σ H _ us Q I rv ⟨_, _, rfl, hQ _ _ (.here sk (.int _) h)⟩
  · exact h.elim
/-- the name of a value's type -/
def W.tyName (S : Store) : W → Option String
  | .non => some "NoneType"
  | .bl _ => some "bool"
  | .int _ => some "int"
  | .str _ => some "str"
  | .tup _ => some "tuple"
  | .ref n => match S[n]? with
    | some (.lst _) => some "list"
    | some (.frz _) => some "list"
    | some (.dic _) => some "dict"
    | none => none
  | .ty _ => none
@[irreducible] def qIsi : ZC := fun ws S K => Bx (match ws with
  | [x, .ty T] => ∃ n b, x.tyName S = some n ∧ kitB n T = some b ∧ K (.bl b) S
  | _ => False)
theorem zc_isi : ZOC TB X (.builtin "isinstance") qIsi := by
  refine ⟨fun pins s σ H xs us Q I rv h => ?_⟩
  obtain ⟨A, S, ws, Kc, sk, r, h, hQ⟩ := h
  unfold qIsi at h
  replace h := h.ok
  split at h
  · rename_i wx T
    obtain ⟨n, b, e1, e2, k⟩ := h
    cases r with
    | cons r1 r =>
      cases r with
      | cons r2 r =>
        cases r2
        cases r
        have key : ∀ (v : V), Rep X.K A H wx v → TyX X.K H v (.type n) := by
          intro v r1
          cases r1 with
          | non => cases e1; exact .base .non
          | bl _ => cases e1; exact .base (.bl _)
          | int _ => cases e1; exact .base (.int _)
          | str _ => cases e1; exact .base (.str _)
          | tup h1 _ =>
            cases e1
            rcases h1 with h1 | ⟨o, _, _, h1, h2, _⟩
            · exact .base (.tup h1)
            · exact .kTuple h1 h2
          | @ref a n' h1 =>
            cases hc : S[n']? with
            | none => simp [W.tyName, hc] at e1
            | some o =>
              cases o with
              | lst xs =>
                simp only [W.tyName, hc, Option.some.injEq] at e1
                subst e1
                obtain ⟨vs, e, _⟩ := sk.cell n' a _ h1 hc
                exact .base (.lst e)
              | frz xs =>
                simp only [W.tyName, hc, Option.some.injEq] at e1
                subst e1
                obtain ⟨vs, e, _⟩ := sk.cell n' a _ h1 hc
                rcases e with ⟨o, e⟩ | ⟨o, _, _, e, h2, _⟩
                · exact .base (.frz e)
                · exact .kList e h2
              | dic xs =>
                simp only [W.tyName, hc, Option.some.injEq] at e1
                subst e1
                obtain ⟨vs, e, _⟩ := sk.cell n' a _ h1 hc
                exact .base (.dK e)
          | ty _ => cases e1
        exact call_isi pins s σ H _ us Q I rv ⟨_, _, _, _, b, rfl, .ty _, key _ r1, kit_ty e2, hQ _ _ (.here sk (.bl _) k)⟩
  · exact h.elim
@[irreducible] def qTup : ZC := fun ws S K => Bx (match ws with
  | [.tup xs] => K (.tup xs) S
  | [.ref n] => ∃ xs, IsLst S n xs ∧ K (.tup xs) S
  | _ => False)
theorem zc_tup : ZOC TB X (.type "tuple") qTup := by
  refine ⟨fun pins s σ H xs us Q I rv h => ?_⟩
  obtain ⟨A, S, ws, Kc, sk, r, h, hQ⟩ := h
  unfold qTup at h
  replace h := h.ok
  cases r with
  | nil => exact h.elim
  | cons r rr =>
    cases rr with
    | cons _ _ => cases r <;> exact h.elim
    | nil =>
      cases r with
      | tup h1 q1 => exact call_tuple_of pins s σ H _ us Q I rv ⟨_, _, rfl, .inr ⟨h1.sq, hQ _ _ (.here sk (.tup h1 q1) h)⟩⟩
      | ref h1 =>
        obtain ⟨ys, e1, k⟩ := h
        obtain ⟨vs, hq, q1⟩ := sk.seq h1 e1
        exact call_tuple_of pins s σ H _ us Q I rv ⟨_, _, rfl, .inl ⟨hq, fun l hl => hQ _ _ (.tup sk q1 hl k)⟩⟩
      | _ => exact h.elim
@[irreducible] def qList : ZC := fun ws S K => Bx (match ws with
  | [.tup xs] => K (.ref S.length) (S ++ [.lst xs])
  | [.ref n] => ∃ xs, IsLst S n xs ∧ K (.ref S.length) (S ++ [.lst xs])
  | _ => False)
theorem zc_list : ZOC TB X (.type "list") qList := by
  refine ⟨fun pins s σ H xs us Q I rv h => ?_⟩
  obtain ⟨A, S, ws, Kc, sk, r, h, hQ⟩ := h
  unfold qList at h
  replace h := h.ok
  cases r with
  | nil => exact h.elim
  | cons r rr =>
    cases rr with
    | cons _ _ => cases r <;> exact h.elim
    | nil =>
      cases r with
      | tup h1 q1 => exact call_list_of pins s σ H _ us Q I rv ⟨_, _, rfl, .inr h1.sq, fun l hl => hQ _ _ (.lst sk q1 hl h)⟩
      | ref h1 =>
        obtain ⟨ys, e1, k⟩ := h
        obtain ⟨vs, hq, q1⟩ := sk.seq h1 e1
        exact call_list_of pins s σ H _ us Q I rv ⟨_, _, rfl, .inl hq, fun l hl => hQ _ _ (.lst sk q1 hl k)⟩
      | _ => exact h.elim
@[irreducible] def qStr : ZC := fun ws S K => Bx (match ws with
  | [.int i] => i.natAbs.log2 < 1920 ∧ K (.str (toString i)) S
  | _ => False)
theorem zc_str : ZOC TB X (.type "str") qStr := by
  refine ⟨fun pins s σ H xs us Q I rv h => ?_⟩
  obtain ⟨A, S, ws, Kc, sk, r, h, hQ⟩ := h
  unfold qStr at h
  replace h := h.ok
  cases r with
  | nil => exact h.elim
  | cons r rr =>
    cases rr with
    | cons _ _ => cases r <;> exact h.elim
    | nil =>
      cases r with
      | int i => exact call_str_int pins s σ H _ us Q I rv ⟨_, rfl, h.1, hQ _ _ (.here sk (.str _) h.2)⟩
      | _ => exact h.elim

/-! ### methods of lists -/
abbrev ZM := W → List W → Store → WK → Prop
def lowM (K : PySem.W.Frag) (TB : List Addr) (r : ZM) : V → List V → Hp → VK → Prop := fun x xs H Q => ∃ A S wx ws Kc, SOk K TB A S H ∧ Rep K A H wx x ∧ Reps K A H ws xs ∧ r wx ws S Kc ∧ ∀ v H', Aft K TB A H Kc v H' → Q v H'
structure ZOM (TB : List Addr) (X : Cx) (id : String) (r : ZM) : Prop where
  ok : MtR X id (lowM X.K TB r)
/-- the receiver is a list -/
def onLst (x : W) (S1 : Store) (P : Prop) : Prop := (∃ n xs, x = .ref n ∧ IsLst S1 n xs) ∧ P
def zMl (r : ZM) (to : ZE) (ts : ZA) : ZE := fun L S K => to L S fun x S1 => onLst x S1 (ts L S1 fun ws S2 => r x ws S2 K)
theorem z_ml {name : Str} {r : ZM} (slot : Slot "list" name id) (hty : typeOf (.builtin id) = pure (.type "method_descriptor")) (hm : ZOM TB X id r) (ho : ZPE TB X o to) (ha : ZPA TB X (e :: es) ts)
    (hbase : attributeBase o name X.env (eval o X.env) = eval o X.env := by rfl)
    (hfew : ((backTo pos (starEach (e :: es) X.env)).all (fun x => !x.1) && (backToKw pos (keywordEach [] X.env)).all (fun x => x.1.isSome)
      && decide ((e :: es).length + ([] : List Keyword).length + (if ([] : List Keyword).isEmpty then 0 else 1) < 30)) = true := by rfl)
    (hline : (apos.endLine == pos.line) = true := by rfl) (hs : starEach (e :: es) X.env = (false, eval e X.env) :: starEach es X.env := by rfl) (hplain : (backTo pos (starEach es X.env)).any (·.1) = false := by rfl) :
    ZPE TB X (.Call (.Attribute o name apos) (e :: es) [] pos) (zMl r to ts) :=
  ⟨(pe_bm PySem.F.plainAttrs_list slot hty hm.ok ho.pe ha.pa hbase hfew hline hs hplain).conv fun σ H Q ⟨L, S, A, Kc, s, l, h, hQ⟩ => ⟨L, S, A, _, s, l, h, fun v1 H1 ⟨A1, S1, w1, ea1, eh1, s1, r1, ⟨n, xs, en, hn⟩, h1⟩ => by
    subst en
    cases r1 with
    | ref ha1 =>
      obtain ⟨vs, hq, _⟩ := s1.seq ha1 hn
      refine ⟨.inl ⟨rfl, vs, hq⟩, L, S1, A1, _, s1, l.mono ea1 eh1, h1, fun xs H2 ⟨A2, S2, ws, ea2, eh2, s2, r2, h2⟩ => ?_⟩
      exact ⟨A2, S2, .ref n, ws, Kc, s2, .ref (ea2 _ _ ha1), r2, h2, fun v H' q => hQ v H' ((q.on ea2 eh2).on ea1 eh1)⟩⟩⟩
theorem z_ml0 {name : Str} {r : ZM} (slot : Slot "list" name id) (hty : typeOf (.builtin id) = pure (.type "method_descriptor")) (hm : ZOM TB X id r) (ho : ZPE TB X o to)
    (hbase : attributeBase o name X.env (eval o X.env) = eval o X.env := by rfl) (hline : (apos.endLine == pos.line) = true := by rfl) :
    ZPE TB X (.Call (.Attribute o name apos) [] [] pos) (zMl r to zNil) :=
  ⟨(pe_bm0 PySem.F.plainAttrs_list slot hty hm.ok ho.pe hbase hline).conv fun σ H Q ⟨L, S, A, Kc, s, l, h, hQ⟩ => ⟨L, S, A, _, s, l, h, fun v1 H1 ⟨A1, S1, w1, ea1, eh1, s1, r1, ⟨n, xs, en, hn⟩, h1⟩ => by
    subst en
    cases r1 with
    | ref ha1 =>
      obtain ⟨vs, hq, _⟩ := s1.seq ha1 hn
      exact ⟨.inl ⟨rfl, vs, hq⟩, A1, S1, .ref n, [], Kc, s1, .ref ha1, .nil, h1, fun v H' q => hQ v H' (q.on ea1 eh1)⟩⟩⟩
@[irreducible] def qAppend : ZM := fun x ws S K => Bx (match x, ws with
  | .ref n, [w] => ∃ xs, S[n]? = some (.lst xs) ∧ xs.length < sizeLine ∧ K .non (S.set n (.lst (xs ++ [w])))
  | _, _ => False)
theorem zm_append : ZOM TB X "list.append" qAppend := by
  refine ⟨fun pins s σ H x xs v us Q I rx rv h => ?_⟩
  obtain ⟨A, S, wx, ws, Kc, sk, r1, r, h, hQ⟩ := h
  unfold qAppend at h
  replace h := h.ok
  split at h
  · obtain ⟨ys, e1, hz, k⟩ := h
    cases r1 with
    | ref h1 =>
      cases r with
      | cons r2 r =>
        cases r
        obtain ⟨vs, f, q⟩ := sk.lst h1 e1
        exact mt_append pins s σ H _ _ v us Q I rx rv ⟨_, _, _, rfl, rfl, f, by rw [← q.length]; exact hz, hQ _ _ (.set sk h1 e1 (q.append (.cons r2 .nil)) .non k)⟩
  · exact h.elim
/-- xs.pop(), xs.pop(i) -/
@[irreducible] def qPop : ZM := fun x ws S K => Bx (match x, ws with
  | .ref n, [] => ∃ xs y, S[n]? = some (.lst xs) ∧ xs[xs.length - 1]? = some y ∧ K y (S.set n (.lst xs.dropLast))
  | .ref n, [.int i] => ∃ xs k y, S[n]? = some (.lst xs) ∧ -(2 ^ 63) ≤ i ∧ i < 2 ^ 63 ∧ seqIndex? i xs.length = some k ∧ xs[k]? = some y ∧ K y (S.set n (.lst (xs.eraseIdx k)))
  | _, _ => False)
theorem Reps.dropLast {K : PySem.W.Frag} {A : List Addr} {H : Hp} {ws : List W} {vs : List V} (h : Reps K A H ws vs) : Reps K A H ws.dropLast vs.dropLast := by
  rw [List.dropLast_eq_take, List.dropLast_eq_take, h.length]
  exact h.take _
theorem zm_pop : ZOM TB X "list.pop" qPop := by
  refine ⟨fun pins s σ H x xs v us Q I rx rv h => ?_⟩
  obtain ⟨A, S, wx, ws, Kc, sk, r1, r, h, hQ⟩ := h
  unfold qPop at h
  replace h := h.ok
  split at h
  · obtain ⟨ys, y, e1, hz, k⟩ := h
    cases r1 with
    | ref h1 =>
      cases r
      obtain ⟨vs, f, q⟩ := sk.lst h1 e1
      obtain ⟨v', hv', rv'⟩ := q.get hz
      exact mt_pop pins s σ H _ _ v us Q I rx rv ⟨_, _, v', rfl, rfl, f, by rw [← q.length]; exact hv', hQ _ _ (.set sk h1 e1 q.dropLast rv' k)⟩
  · obtain ⟨ys, j, y, e1, b1, b2, b3, hz, k⟩ := h
    cases r1 with
    | ref h1 =>
      cases r with
      | cons r2 r =>
        cases r2
        cases r
        obtain ⟨vs, f, q⟩ := sk.lst h1 e1
        obtain ⟨v', hv', rv'⟩ := q.get hz
        exact mt_popAt pins s σ H _ _ v us Q I rx rv ⟨_, _, _, j, v', rfl, rfl, f, b1, b2, by rw [← q.length]; exact b3, hv', hQ _ _ (.set sk h1 e1 (q.eraseIdx j) rv' k)⟩
  · exact h.elim
@[irreducible] def qInsert : ZM := fun x ws S K => Bx (match x, ws with
  | .ref n, [.int i, w] => ∃ xs, S[n]? = some (.lst xs) ∧ xs.length < sizeLine ∧ 0 ≤ i ∧ i < 2 ^ 63 ∧ K .non (S.set n (.lst (xs.take i.toNat ++ [w] ++ xs.drop i.toNat)))
  | _, _ => False)
theorem zm_insert : ZOM TB X "list.insert" qInsert := by
  refine ⟨fun pins s σ H x xs v us Q I rx rv h => ?_⟩
  obtain ⟨A, S, wx, ws, Kc, sk, r1, r, h, hQ⟩ := h
  unfold qInsert at h
  replace h := h.ok
  split at h
  · obtain ⟨ys, e1, hz, b1, b2, k⟩ := h
    cases r1 with
    | ref h1 =>
      cases r with
      | cons r2 r =>
        cases r with
        | cons r3 r =>
          cases r2
          cases r
          obtain ⟨vs, f, q⟩ := sk.lst h1 e1
          exact mt_insert pins s σ H _ _ v us Q I rx rv ⟨_, _, _, _, rfl, rfl, f, by rw [← q.length]; exact hz, b1, b2, hQ _ _ (.set sk h1 e1 (((q.take _).append (.cons r3 .nil)).append (q.drop _)) .non k)⟩
  · exact h.elim
/-- xs.extend(ys), ys another list -/
@[irreducible] def qExtend : ZM := fun x ws S K => Bx (match x, ws with
  | .ref n, [.ref m] => ∃ xs ys, S[n]? = some (.lst xs) ∧ S[m]? = some (.lst ys) ∧ xs.length + ys.length ≤ sizeLine ∧ K .non (S.set n (.lst (xs ++ ys)))
  | _, _ => False)
theorem zm_extend : ZOM TB X "list.extend" qExtend := by
  refine ⟨fun pins s σ H x xs v us Q I rx rv h => ?_⟩
  obtain ⟨A, S, wx, ws, Kc, sk, r1, r, h, hQ⟩ := h
  unfold qExtend at h
  replace h := h.ok
  split at h
  · obtain ⟨ys, zs, e1, e2, hz, k⟩ := h
    cases r1 with
    | ref h1 =>
      cases r with
      | cons r2 r =>
        cases r2 with
        | ref h2 =>
          cases r
          obtain ⟨vs, f, q⟩ := sk.lst h1 e1
          obtain ⟨vs2, f2, q2⟩ := sk.lst h2 e2
          exact mt_extend pins s σ H _ _ v us Q I rx rv ⟨_, _, _, _, rfl, rfl, f, f2, by rw [← q.length, ← q2.length]; exact hz, hQ _ _ (.set sk h1 e1 (q.append q2) .non k)⟩
  · exact h.elim
/-- xs.index(y): the first place of an equal one -/
@[irreducible] def qIndex : ZM := fun x ws S K => Bx (match x, ws with
  | .ref n, [y] => ∃ d ds j z, DataOf S (.ref n) (.list ds) ∧ DataOf S y d ∧ SeqAt.shaped (.list ds) = true ∧ SeqAt.shaped d = true ∧ ds[j]? = some z ∧ PyData.eqv z d = true ∧
      (∀ (m : Nat) (z' : PyData), m < j → ds[m]? = some z' → PyData.eqv z' d = false) ∧ K (.int (j : Nat)) S
  | _, _ => False)
theorem zm_index (hu : X.A.units + 65 < cLine) : ZOM TB X "list.index" qIndex := by
  refine ⟨fun pins s σ H x xs v us Q I rx rv h => ?_⟩
  obtain ⟨A, S, wx, ws, Kc, sk, r1, r, h, hQ⟩ := h
  unfold qIndex at h
  replace h := h.ok
  split at h
  · obtain ⟨d, ds, j, z, h1, h2, s1, s2, b1, b2, b3, k⟩ := h
    cases r1 with
    | ref ha =>
      cases r with
      | cons r2 r =>
        cases r
        exact mt_indexD hu pins s σ H _ _ v us Q I rx rv ⟨_, _, d, ds, j, z, rfl, rfl, h1.dp sk (.ref ha), h2.dp sk r2, s1, s2, b1, b2, b3, hQ _ _ (.here sk (.int _) k)⟩
  · exact h.elim

/-! ### calls of the text's own defs -/
/-- a def's promise over the store -/
def lowF (K : PySem.W.Frag) (TB : List Addr) (n : Nat) (sp : ZC) : Sp := fun vs H Q _ => vs.length = n ∧ lowC K TB sp vs H Q
abbrev ZFn (P : Program) (w : World) (K : PySem.W.Frag) (mg : Str → Option Value) (base : Heap) (TB : List Addr) (k : Nat) (f : Addr) (fd : FuncData) (ps : List Str) (sp : ZC) : Prop :=
  FnOk P w K mg base CX0 k f fd ps (lowF K TB ps.length sp)
def zCallF (n : Nat) (r : ZC) (ts : ZA) : ZE := fun L S K => ts L S fun ws S1 => qAr ws.length n (r ws S1 K)
theorem z_call {k : Nat} {f : Addr} {fd : FuncData} {ps : List Str} {sp : ZC} (F : ZFn X.prog X.w X.K X.mg X.base TB k f fd ps sp) (hr : Room k X.A) (hg : Gl X x) (hm : X.mg x = some (.ref f)) (hk : PySem.W.keepIn X.K (.ref f) = true) (hb : Binds X.K fd ps [])
    (ha : ZPA TB X (e :: es) ts) (hdb : (x == ("__debug__" : Str)) = false := by decide) (he : starEach (e :: es) X.env = (false, eval e X.env) :: starEach es X.env := by rfl) (hpl : (backTo pos (starEach es X.env)).any (·.1) = false := by rfl) :
    ZPE TB X (.Call (.Name x p) (e :: es) [] pos) (zCallF ps.length sp ts) :=
  ⟨(pe_call F hr hg hm hk hb .nil pass0 ha.pa hdb he hpl).conv fun σ H Q ⟨L, S, A, Kc, s, l, h, hQ⟩ => ⟨L, S, A, _, s, l, h, fun vs H1 ⟨A1, S1, ws, ea1, eh1, s1, r1, h0⟩ => by
    obtain ⟨hl, h1⟩ := qAr_ex h0
    show lowF X.K TB ps.length sp (vs ++ []) H1 Q E0
    rw [List.append_nil]
    exact ⟨by rw [← r1.length]; exact hl, A1, S1, ws, Kc, s1, r1, h1, fun v H' q => hQ v H' (q.on ea1 eh1)⟩⟩⟩
end

/-! ### statements -/
section
variable {K : PySem.W.Frag} {TB A A1 : List Addr} {H H1 : Hp}
theorem lowS_of {t : ZS} {D : Ends} {σ : L2.St} {L : Loc'} {S : Store} {ZD : ZEnds} (s : SOk K TB A S H) (l : LOk K A H L σ) (h : t ZD L S) (h1 : ∀ σ' H', AftS K TB A H ZD.nx σ' H' → D.nx σ' H') (h2 : ∀ v H', Aft K TB A H ZD.rt v H' → D.rt v H')
    (h3 : ∀ σ' H', AftS K TB A H ZD.bk σ' H' → D.bk σ' H') (h4 : ∀ σ' H', AftS K TB A H ZD.ct σ' H' → D.ct σ' H') : lowS K TB t D σ H := ⟨L, S, A, ZD, s, l, h, h1, h2, h3, h4⟩
end
section
variable {X : Cx} {TB : List Addr} {st : Stmt} {rest : List Stmt} {t u : ZS} {e : Expr} {te : ZE} {tt : ZT} {pos : Pos}
def zNext : ZS := fun D L S => D.nx L S
def zSeq (t u : ZS) : ZS := fun D L S => t { D with nx := u D } L S
theorem AftS.here {K : PySem.W.Frag} {TB A : List Addr} {H : Hp} {Kc : Loc' → Store → Prop} {σ : L2.St} {L : Loc'} {S : Store} (s : SOk K TB A S H) (l : LOk K A H L σ) (k : Kc L S) : AftS K TB A H Kc σ H := ⟨A, S, L, .refl _, .refl _, s, l, k⟩
theorem zs_nil : ZPSs TB X [] zNext := ⟨pss_nil.conv fun D σ H ⟨L, S, A, ZD, s, l, h, h1, _⟩ => h1 _ _ (.here s l h)⟩
theorem zs_cons (h1 : ZPS TB X st t) (h2 : ZPSs TB X rest u) : ZPSs TB X (st :: rest) (zSeq t u) :=
  ⟨(pss_cons h1.ps h2.ps).conv fun D σ H ⟨L, S, A, ZD, s, l, h, k1, k2, k3, k4⟩ => lowS_of s l h (fun σ' H' ⟨A1, S1, L1, ea, eh, s1, l1, q⟩ => lowS_of s1 l1 q (fun _ _ z => k1 _ _ (z.on ea eh)) (fun _ _ z => k2 _ _ (z.on ea eh)) (fun _ _ z => k3 _ _ (z.on ea eh)) (fun _ _ z => k4 _ _ (z.on ea eh))) k2 k3 k4⟩
theorem zs_one (h1 : ZPS TB X st t) : ZPSs TB X [st] t := ⟨pss_one h1.ps⟩
def zBreak : ZS := fun D L S => D.bk L S
def zCont : ZS := fun D L S => D.ct L S
theorem z_pass : ZPS TB X (.Pass pos) zNext := ⟨ps_pass.conv fun D σ H ⟨L, S, A, ZD, s, l, h, h1, _⟩ => h1 _ _ (.here s l h)⟩
theorem z_break : ZPS TB X (.Break pos) zBreak := ⟨ps_break.conv fun D σ H ⟨L, S, A, ZD, s, l, h, _, _, h1, _⟩ => h1 _ _ (.here s l h)⟩
theorem z_continue : ZPS TB X (.Continue pos) zCont := ⟨ps_continue.conv fun D σ H ⟨L, S, A, ZD, s, l, h, _, _, _, h1⟩ => h1 _ _ (.here s l h)⟩
theorem z_doc {x j pos pos'} : ZPS TB X (.Expr (.Constant (.str x) j pos) pos') zNext := ⟨ps_doc.conv fun D σ H ⟨L, S, A, ZD, s, l, h, h1, _⟩ => h1 _ _ (.here s l h)⟩
def zDrop (te : ZE) : ZS := fun D L S => te L S fun _ S1 => D.nx L S1
theorem z_expr (he : ZPE TB X e te) (hs : swapsWith e none pos.line X.env = pure false := by rfl) : ZPS TB X (.Expr e pos) (zDrop te) :=
  ⟨(ps_expr he.pe hs).conv fun D σ H ⟨L, S, A, ZD, s, l, h, h1, _⟩ => ⟨L, S, A, _, s, l, h, fun v H' ⟨A1, S1, w, ea, eh, s1, r, q⟩ => h1 _ _ ⟨A1, S1, L, ea, eh, s1, l.mono ea eh, q⟩⟩⟩
def zRet (te : ZE) : ZS := fun D L S => te L S D.rt
theorem z_ret (he : ZPE TB X e te) : ZPS TB X (.Return (some e) pos) (zRet te) := ⟨(ps_ret he.pe).conv fun D σ H ⟨L, S, A, ZD, s, l, h, _, h1, _⟩ => ⟨L, S, A, _, s, l, h, h1⟩⟩
def zRetN : ZS := fun D L S => D.rt .non S
theorem z_retN : ZPS TB X (.Return none pos) zRetN := ⟨ps_retN.conv fun D σ H ⟨L, S, A, ZD, s, l, h, _, h1, _⟩ => h1 _ _ (.here s .non h)⟩
def zIfS (c : ZT) (t u : ZS) : ZS := fun D L S => c L S fun b S1 => qIf b (t D L S1) (u D L S1)
theorem z_ifS {c : Expr} {a b : List Stmt} (hc : ZPT TB X c tt) (ha : ZPSs TB X a t) (hb : ZPSs TB X b u) : ZPS TB X (.If c a b pos) (zIfS tt t u) :=
  ⟨(ps_if hc.pt ha.ps hb.ps).conv fun D σ H ⟨L, S, A, ZD, s, l, h, k1, k2, k3, k4⟩ => ⟨L, S, A, _, s, l, h, fun v H' ⟨A1, S1, ea, eh, s1, q⟩ => by
    cases v with
    | true =>
      rw [qIf_t] at q
      rw [if_pos rfl]
      exact lowS_of s1 (l.mono ea eh) q (fun _ _ z => k1 _ _ (z.on ea eh)) (fun _ _ z => k2 _ _ (z.on ea eh)) (fun _ _ z => k3 _ _ (z.on ea eh)) (fun _ _ z => k4 _ _ (z.on ea eh))
    | false =>
      rw [qIf_f] at q
      rw [if_neg Bool.false_ne_true]
      exact lowS_of s1 (l.mono ea eh) q (fun _ _ z => k1 _ _ (z.on ea eh)) (fun _ _ z => k2 _ _ (z.on ea eh)) (fun _ _ z => k3 _ _ (z.on ea eh)) (fun _ _ z => k4 _ _ (z.on ea eh))⟩⟩
/-- code that is never reached -/
def zNever : ZS := fun _ _ _ => False
theorem z_never : ZPS TB X st zNever := ⟨ps_never.conv fun D σ H ⟨L, S, A, ZD, s, l, h, _⟩ => h⟩

/-! ### targets -/
abbrev ZTG := W → Loc' → Store → (Loc' → Store → Prop) → Prop
abbrev ZTGs := List W → Loc' → Store → (Loc' → Store → Prop) → Prop
def lowG (K : PySem.W.Frag) (TB : List Addr) (t : ZTG) : TG := fun v σ H Q => ∃ L S A w Kc, SOk K TB A S H ∧ LOk K A H L σ ∧ Rep K A H w v ∧ t w L S Kc ∧ ∀ σ' H', AftS K TB A H Kc σ' H' → Q σ' H'
def lowGs (K : PySem.W.Frag) (TB : List Addr) (t : ZTGs) : TGs := fun v σ H Q => ∃ L S A w Kc, SOk K TB A S H ∧ LOk K A H L σ ∧ Reps K A H w v ∧ t w L S Kc ∧ ∀ σ' H', AftS K TB A H Kc σ' H' → Q σ' H'
structure ZPG (TB : List Addr) (X : Cx) (e : Expr) (t : ZTG) : Prop where
  pg : PG X e (lowG X.K TB t)
structure ZPGs (TB : List Addr) (X : Cx) (e : List Expr) (t : ZTGs) : Prop where
  pg : PGs X e (lowGs X.K TB t)
theorem _root_.L2.PG.conv {T T' : TG} (h : PG X e T) (c : ∀ v σ H Q, T' v σ H Q → T v σ H Q) : PG X e T' := ⟨fun pins s σ H v u Q I r q => h.run pins s σ H v u Q I r (c v σ H Q q)⟩
theorem _root_.L2.PGs.conv {es : List Expr} {T T' : TGs} (h : PGs X es T) (c : ∀ v σ H Q, T' v σ H Q → T v σ H Q) : PGs X es T' := ⟨fun pins s σ H v u Q I r q => h.run pins s σ H v u Q I r (c v σ H Q q)⟩
def zgName (i : Nat) : ZTG := fun w L S K => qLet i (some w) L fun L' => K L' S
theorem zg_name {i : Nat} {x : Str} (hN : X.N.Nodup) (hi : X.N[i]? = some x) (hx : Loc X.env.scope x) (hf : X.fn x = true ∨ X.env.scope.names.lookup x = some .local := by first | exact .inl rfl | exact .inr rfl | assumption) : ZPG TB X (.Name x pos) (zgName i) :=
  ⟨(pg_name hN hi hx hf).conv fun v σ H Q ⟨L, S, A, w, Kc, s, l, r, h, hQ⟩ => hQ _ _ (.here s (l.set r i) (qLet_iff.mp h))⟩
def zgNil : ZTGs := fun ws L S K => match ws with
  | [] => K L S
  | _ => False
def zgCons (t : ZTG) (u : ZTGs) : ZTGs := fun ws L S K => match ws with
  | w :: r => t w L S fun L' S' => u r L' S' K
  | [] => False
theorem zgNil_ex {ws : List W} {L : Loc'} {S : Store} {K : Loc' → Store → Prop} (h : zgNil ws L S K) : ws = [] ∧ K L S := by
  cases ws with
  | nil => exact ⟨rfl, h⟩
  | cons _ _ => exact h.elim
theorem zgCons_ex {t : ZTG} {u : ZTGs} {ws : List W} {L : Loc'} {S : Store} {K : Loc' → Store → Prop} (h : zgCons t u ws L S K) : ∃ w r, ws = w :: r ∧ t w L S fun L' S' => u r L' S' K := by
  cases ws with
  | nil => exact h.elim
  | cons w r => exact ⟨w, r, rfl, h⟩
theorem zgs_nil : ZPGs TB X [] zgNil := ⟨pgs_nil.conv fun v σ H Q ⟨L, S, A, w, Kc, s, l, r, h0, hQ⟩ => by
  obtain ⟨e, h⟩ := zgNil_ex h0
  subst e
  cases r
  exact ⟨rfl, hQ _ _ (.here s l h)⟩⟩
theorem zgs_cons {es : List Expr} {t : ZTG} {u : ZTGs} (h1 : ZPG TB X e t) (h2 : ZPGs TB X es u)
    (hs : (assignEach (e :: es) X.env).map (·.2) = assign e X.env :: (assignEach es X.env).map (·.2) := by rfl) : ZPGs TB X (e :: es) (zgCons t u) := ⟨(pgs_cons h1.pg h2.pg hs).conv fun v σ H Q ⟨L, S, A, w, Kc, s, l, r, h0, hQ⟩ => by
  obtain ⟨w1, wr, e, h⟩ := zgCons_ex h0
  subst e
  cases r with
  | cons r1 r2 =>
    exact ⟨_, _, rfl, L, S, A, w1, _, s, l, r1, h, fun σ' H' ⟨A1, S1, L1, ea, eh, s1, l1, q⟩ => ⟨L1, S1, A1, wr, _, s1, l1, r2.mono ea eh, q, fun _ _ z => hQ _ _ (z.on ea eh)⟩⟩⟩
/-- (a, b, ..) = a tuple of that length -/
def zgTup (n : Nat) (t : ZTGs) : ZTG := fun w L S K => onTup (fun ws => qAr ws.length n (t ws L S K)) w
theorem zgTup_ex {n : Nat} {t : ZTGs} {w : W} {L : Loc'} {S : Store} {K : Loc' → Store → Prop} (h : zgTup n t w L S K) : ∃ ws, w = .tup ws ∧ ws.length = n ∧ t ws L S K := by
  obtain ⟨ws, e, h⟩ := onTup_ex h
  exact ⟨ws, e, qAr_ex h⟩
theorem zg_tup {es : List Expr} {k : Nat} {t : ZTGs} {n : Nat} (hc : X.calm = true) (h : ZPGs TB X es t)
    (hn : (assignEach es X.env).length = n := by rfl) (hst : (assignEach es X.env).findIdx? (·.1) = none := by rfl) : ZPG TB X (.Tuple es k pos) (zgTup n t) :=
  ⟨(pg_tup hc h.pg hn hst).conv fun v σ H Q ⟨L, S, A, w, Kc, s, l, r, h0, hQ⟩ => by
    obtain ⟨ws, e, hl, h⟩ := zgTup_ex h0
    subst e
    cases r with
    | tup h1 r1 => exact ⟨_, _, rfl, h1.sq, by rw [← r1.length]; exact hl, L, S, A, ws, Kc, s, l, r1, h, hQ⟩⟩
/-- o[i] = v by values -/
abbrev ZSet := W → W → W → Store → (Store → Prop) → Prop
def zgSub (to ti : ZE) (t : ZSet) : ZTG := fun w L S K => to L S fun o S1 => ti L S1 fun i S2 => t o i w S2 fun S3 => K L S3
@[irreducible] def qSetL : ZSet := fun o i w S K => Bx (match o, i with
  | .ref n, .int k => ∃ xs j, S[n]? = some (.lst xs) ∧ ixN xs.length k = some j ∧ K (S.set n (.lst (xs.set j w)))
  | _, _ => False)
theorem zg_subL {o i : Expr} {to ti : ZE} (ho : ZPE TB X o to) (hi : ZPE TB X i ti)
    (ha : ∀ v, assign (.Subscript o i pos) X.env v = (do
      let ov ← holding [v] (eval o X.env)
      let iv ← holding [v, ov] (eval i X.env)
      standAt pos
      holding [v, ov, iv] (setItem ov iv v)
      release [v, ov, iv] []) := by intro _; rfl) : ZPG TB X (.Subscript o i pos) (zgSub to ti qSetL) :=
  ⟨(pg_sub ho.pe hi.pe set_list ha).conv fun v σ H Q ⟨L, S, A, w, Kc, s, l, r, h, hQ⟩ => ⟨L, S, A, _, s, l, h, fun v1 H1 ⟨A1, S1, w1, ea1, eh1, s1, r1, h1⟩ =>
    ⟨L, S1, A1, _, s1, l.mono ea1 eh1, h1, fun v2 H2 ⟨A2, S2, w2, ea2, eh2, s2, r2, h2⟩ => by
      replace h2 : qSetL w1 w2 w S2 fun S3 => Kc L S3 := h2
      unfold qSetL at h2
      replace h2 := h2.ok
      split at h2
      · obtain ⟨xs, j, e1, e2, k⟩ := h2
        cases r1 with
        | ref ha1 =>
          cases r2
          obtain ⟨vs, f, q⟩ := s2.lst (ea2 _ _ ha1) e1
          refine ⟨_, _, _, j, rfl, rfl, f, by rw [← q.length]; exact e2, hQ _ _ ?_⟩
          have rr := r.mono (ea1.trans ea2) (eh1.trans eh2)
          obtain ⟨s3, eh3⟩ := s2.write (o' := .lst (xs.set j w)) (u := .lst (vs.set j v)) (ea2 _ _ ha1) e1 rfl rfl fun eh => .lst' upd_same ((Reps.set rr j q).mono (.refl _) eh)
          exact ⟨A2, _, L, ea1.trans ea2, (eh1.trans eh2).trans eh3, s3, l.mono (ea1.trans ea2) ((eh1.trans eh2).trans eh3), k⟩
      · exact h2.elim⟩⟩⟩
def zAsg (te : ZE) (g : ZTG) : ZS := fun D L S => te L S fun w S1 => g w L S1 D.nx
theorem z_asg {tg : Expr} {g : ZTG} (he : ZPE TB X e te) (hg : ZPG TB X tg g) (hs : swapsWithSole [tg] e pos.line X.env = pure false := by rfl) (hw : swappedStores [tg] e X.env = pure none := by rfl)
    (h1 : (assignEach [tg] X.env).map (·.2) = [assign tg X.env] := by rfl) : ZPS TB X (.Assign [tg] e pos) (zAsg te g) :=
  ⟨(ps_asg he.pe hg.pg hs hw h1).conv fun D σ H ⟨L, S, A, ZD, s, l, h, k1, _⟩ => ⟨L, S, A, _, s, l, h, fun v H' ⟨A1, S1, w, ea, eh, s1, r, q⟩ => ⟨L, S1, A1, w, _, s1, l.mono ea eh, r, q, fun _ _ z => k1 _ _ (z.on ea eh)⟩⟩⟩
theorem z_set {i : Nat} {x : Str} {pos' : Pos} (hN : X.N.Nodup) (hi : X.N[i]? = some x) (hx : Loc X.env.scope x) (he : ZPE TB X e te) (hs : swapsWith e (some (.Name x pos')) pos.line X.env = pure false := by rfl) (hf : X.fn x = true ∨ X.env.scope.names.lookup x = some .local := by first | exact .inl rfl | exact .inr rfl | assumption) :
    ZPS TB X (.Assign [.Name x pos'] e pos) (zAsg te (zgName i)) :=
  ⟨(ps_set hN hi hx he.pe hs hf).conv fun D σ H ⟨L, S, A, ZD, s, l, h, k1, _⟩ => ⟨L, S, A, _, s, l, h, fun v H' ⟨A1, S1, w, ea, eh, s1, r, q⟩ => k1 _ _ ⟨A1, S1, _, ea, eh, s1, (l.mono ea eh).set r i, qLet_iff.mp q⟩⟩⟩
def zPar (i j : Nat) (ta : ZA) : ZS := fun D L S => ta L S fun ws S1 => match ws with
  | [v, w] => qLet i (some v) L fun L1 => qLet j (some w) L1 fun L2 => D.nx L2 S1
  | _ => False
theorem z_par {i j : Nat} {x y : Str} {a b : Expr} {ta : ZA} {px py pt : Pos} {kt k2 pt2} (hc : X.calm = true) (hN : X.N.Nodup) (hi : X.N[i]? = some x) (hj : X.N[j]? = some y) (hij : i ≠ j)
    (hx : X.env.scope.names.lookup x = some .local) (hy : X.env.scope.names.lookup y = some .local) (ha : ZPA TB X [a, b] ta)
    (hw : swappedStores [.Tuple [.Name x px, .Name y py] kt pt] (.Tuple [a, b] k2 pt2) X.env = pure (some [x, y]))
    (hs : swapsWithSole [.Tuple [.Name x px, .Name y py] kt pt] (.Tuple [a, b] k2 pt2) pos.line X.env = pure false := by rfl) :
    ZPS TB X (.Assign [.Tuple [.Name x px, .Name y py] kt pt] (.Tuple [a, b] k2 pt2) pos) (zPar i j ta) :=
  ⟨(ps_par hc hN hi hj hij hx hy ha.pa hw hs).conv fun D σ H ⟨L, S, A, ZD, s, l, h, k1, _⟩ => ⟨L, S, A, _, s, l, h, fun vs H' ⟨A1, S1, ws, ea, eh, s1, r, q⟩ => by
    dsimp only at q
    split at q
    case h_2 => exact q.elim
    cases r with
    | cons r1 r =>
      cases r with
      | cons r2 r =>
        cases r
        exact ⟨_, _, rfl, k1 _ _ ⟨A1, S1, _, ea, eh, s1, ((l.mono ea eh).set r1 i).set r2 j, qLet_iff.mp (qLet_iff.mp q)⟩⟩⟩⟩
def zPar3 (i j k : Nat) (ta : ZA) : ZS := fun D L S => ta L S fun ws S1 => match ws with
  | [u, v, w] => qLet i (some u) L fun L1 => qLet j (some v) L1 fun L2 => qLet k (some w) L2 fun L3 => D.nx L3 S1
  | _ => False
theorem z_par3 {i j l : Nat} {x y z : Str} {a b c : Expr} {ta : ZA} {px py pz pt pos : Pos} {kt k2 pt2} (hc : X.calm = true) (hN : X.N.Nodup) (hi : X.N[i]? = some x) (hj : X.N[j]? = some y) (hl : X.N[l]? = some z) (hij : i ≠ j) (hil : i ≠ l) (hjl : j ≠ l)
    (hx : X.env.scope.names.lookup x = some .local) (hy : X.env.scope.names.lookup y = some .local) (hz : X.env.scope.names.lookup z = some .local) (ha : ZPA TB X [a, b, c] ta)
    (hw : swappedStores [.Tuple [.Name x px, .Name y py, .Name z pz] kt pt] (.Tuple [a, b, c] k2 pt2) X.env = pure (some [x, y, z]))
    (hs : swapsWithSole [.Tuple [.Name x px, .Name y py, .Name z pz] kt pt] (.Tuple [a, b, c] k2 pt2) pos.line X.env = pure false := by rfl) :
    ZPS TB X (.Assign [.Tuple [.Name x px, .Name y py, .Name z pz] kt pt] (.Tuple [a, b, c] k2 pt2) pos) (zPar3 i j l ta) :=
  ⟨(ps_par3 hc hN hi hj hl hij hil hjl hx hy hz ha.pa hw hs).conv fun D σ H ⟨L, S, A, ZD, s, l, h, k1, _⟩ => ⟨L, S, A, _, s, l, h, fun vs H' ⟨A1, S1, ws, ea, eh, s1, r, q⟩ => by
    dsimp only at q
    split at q
    case h_2 => exact q.elim
    cases r with
    | cons r1 r =>
      cases r with
      | cons r2 r =>
        cases r with
        | cons r3 r =>
          cases r
          exact ⟨_, _, _, rfl, k1 _ _ ⟨A1, S1, _, ea, eh, s1, (((l.mono ea eh).set r1 i).set r2 j).set r3 _, qLet_iff.mp (qLet_iff.mp (qLet_iff.mp q))⟩⟩⟩⟩
/-- x op= e -/
def lowP (K : PySem.W.Frag) (TB : List Addr) (r : Z2') : TIp := fun x y H Q => low2 K TB r x y H Q
structure ZIP (TB : List Addr) (X : Cx) (op : Operator) (r : Z2') : Prop where
  ok : PIp X op (lowP X.K TB r)
def zAug (i : Nat) (te : ZE) (r : Z2') : ZS := fun D L S => onV L[i]? fun x => te L S fun y S1 => r x y S1 fun z S2 => qLet i (some z) L fun L' => D.nx L' S2
theorem z_aug {i : Nat} {x : Str} {op : Operator} {r : Z2'} {pos' : Pos} (hN : X.N.Nodup) (hi : X.N[i]? = some x) (hx : Loc X.env.scope x) (he : ZPE TB X e te) (ho : ZIP TB X op r) (hf : X.fn x = true ∨ X.env.scope.names.lookup x = some .local := by first | exact .inl rfl | exact .inr rfl | assumption) :
    ZPS TB X (.AugAssign (.Name x pos') op e pos) (zAug i te r) :=
  ⟨(ps_aug hN hi hx he.pe ho.ok hf).conv fun D σ H ⟨L, S, A, ZD, s, l, h0, k1, _⟩ => by
    obtain ⟨w0, e0, h⟩ := onV_ex h0
    obtain ⟨v0, f0, r0⟩ := l.2 i w0 e0
    refine ⟨v0, f0, L, S, A, _, s, l, h, fun v H' ⟨A1, S1, w, ea, eh, s1, r1, q⟩ => ?_⟩
    exact ⟨A1, S1, w0, w, _, s1, r0.mono ea eh, r1, q, fun v2 H2 ⟨A2, S2, w2, ea2, eh2, s2, r2, q2⟩ => k1 _ _ ⟨A2, S2, _, ea.trans ea2, eh.trans eh2, s2, ((l.mono ea eh).mono ea2 eh2).set r2 i, qLet_iff.mp q2⟩⟩⟩
theorem zip_of {op : Operator} {f : Value → Value → Sem Value} {r : R2} (h : OpR X (inplaceOp op) r) : PIp X op r := h
/-- += on ints, texts; -= *= on ints -/
def qIAdd : Z2' := fun x y S K => match x, y with
  | .int i, .int j => K (.int (i + j)) S
  | .str a, .str b => a.length + b.length ≤ sizeLine ∧ K (.str (a ++ b)) S
  | _, _ => False
theorem zip_add : ZIP TB X .Add qIAdd := by
  refine ⟨fun pins s σ H x y v u Q I rx ry h => ?_⟩
  obtain ⟨A, S, wx, wy, Kc, sk, r1, r2, h, hQ⟩ := h
  cases r1 with
  | int i =>
    cases r2 with
    | int j => exact iop_add pins s σ H _ _ v u Q I rx ry ⟨i, j, rfl, rfl, hQ _ _ (.here sk (.int _) h)⟩
    | _ => exact h.elim
  | str i =>
    cases r2 with
    | str j => exact iop_add_str pins s σ H _ _ v u Q I rx ry ⟨i, j, rfl, rfl, h.1, hQ _ _ (.here sk (.str _) h.2)⟩
    | _ => exact h.elim
  | _ => exact h.elim
theorem zip_sub : ZIP TB X .Sub qSub := by
  refine ⟨fun pins s σ H x y v u Q I rx ry h => ?_⟩
  obtain ⟨A, S, wx, wy, Kc, sk, r1, r2, h, hQ⟩ := h
  cases r1 with
  | int i =>
    cases r2 with
    | int j => exact iop_sub pins s σ H _ _ v u Q I rx ry ⟨i, j, rfl, rfl, hQ _ _ (.here sk (.int _) h)⟩
    | _ => exact h.elim
  | _ => exact h.elim
end
end Z

set_option maxHeartbeats 2000000
/-! Z6: what is walked; for, list comprehensions, while. -/
namespace Z
open PySem PySem.Spec PyProof.Rows L2

/-- what is walked: its items, and what must stand of the store at each turn -/
structure ZIt where
  its : List W
  G : Store → Prop
abbrev ZTI := Loc' → Store → (ZIt → Store → Prop) → Prop
structure Wk (K : PySem.W.Frag) (TB : List Addr) (A : List Addr) (H : Hp) (z : ZIt) (J : It) : Prop where
  go : ∀ i A' S' H', i < z.its.length → AExt A A' → HExt H H' → SOk K TB A' S' H' → z.G S' → J.go i H'
  stop : ∀ A' S' H', AExt A A' → HExt H H' → SOk K TB A' S' H' → z.G S' → J.stop z.its.length H'
  yld : ∀ i A' S' H' x H'', i < z.its.length → AExt A A' → HExt H H' → SOk K TB A' S' H' → z.G S' → J.yld i H' x H'' → HExt H' H'' ∧ SOk K TB A' S' H'' ∧ ∃ w, z.its[i]? = some w ∧ Rep K A' H'' w x
theorem Wk.mono {K : PySem.W.Frag} {TB A A' : List Addr} {H H' : Hp} {z : ZIt} {J : It} (ea : AExt A A') (eh : HExt H H') (w : Wk K TB A H z J) : Wk K TB A' H' z J :=
  ⟨fun i A2 S2 H2 hi x y => w.go i A2 S2 H2 hi (ea.trans x) (eh.trans y), fun A2 S2 H2 x y => w.stop A2 S2 H2 (ea.trans x) (eh.trans y), fun i A2 S2 H2 v H3 hi x y => w.yld i A2 S2 H2 v H3 hi (ea.trans x) (eh.trans y)⟩
def lowI (K : PySem.W.Frag) (TB : List Addr) (t : ZTI) : TI := fun σ H R => ∃ L S A Kc, SOk K TB A S H ∧ LOk K A H L σ ∧ t L S Kc ∧
  ∀ z S' A' H' J, AExt A A' → HExt H H' → SOk K TB A' S' H' → Wk K TB A' H' z J → Kc z S' → R J H'
structure ZPI (TB : List Addr) (X : Cx) (tg e : Expr) (t : ZTI) : Prop where
  pi : PI X tg e (lowI X.K TB t)
theorem _root_.L2.PI.conv {X : Cx} {tg e : Expr} {T T' : TI} (h : PI X tg e T) (c : ∀ σ H R, T' σ H R → T σ H R) : PI X tg e T' := ⟨fun pins s σ H R I q => h.run pins s σ H R I (c σ H R q)⟩

section
variable {X : Cx} {TB : List Addr} {tg e l a b : Expr} {te : ZE} {ts : ZA} {pos p : Pos}
theorem wk_tup {K : PySem.W.Frag} {A : List Addr} {H : Hp} {xs : List W} {vs : List V} {a : Addr} (h : TupAt K H a vs) (r : Reps K A H xs vs) : Wk K TB A H ⟨xs, fun _ => True⟩ (Itt K a) := by
  refine ⟨fun i A' S' H' hi ea eh s _ => ?_, fun A' S' H' ea eh s _ => ⟨vs, (h.mono eh).sq, Nat.le_of_eq r.length.symm⟩, fun i A' S' H' x H'' hi ea eh s _ y => ?_⟩
  · have hi' : i < vs.length := by rw [← r.length]; exact hi
    exact ⟨vs, vs[i], (h.mono eh).sq, List.getElem?_eq_getElem hi'⟩
  · obtain ⟨rfl, y⟩ := y
    have e1 := y vs (h.mono eh).sq
    obtain ⟨w, e2, e3⟩ := r.get' e1
    exact ⟨.refl _, s, w, e2, e3.mono ea eh⟩
theorem wk_list {K : PySem.W.Frag} {A : List Addr} {H : Hp} {xs : List W} {a : Addr} {n : Nat} (ha : A[n]? = some a) : Wk K TB A H ⟨xs, fun S' => IsLst S' n xs⟩ (Itl K a) := by
  refine ⟨fun i A' S' H' hi ea eh s g => ?_, fun A' S' H' ea eh s g => ?_, fun i A' S' H' x H'' hi ea eh s g y => ?_⟩
  · obtain ⟨vs, q, r⟩ := s.seq (ea _ _ ha) g
    have hi' : i < vs.length := by rw [← r.length]; exact hi
    exact ⟨vs, vs[i], q, List.getElem?_eq_getElem hi'⟩
  · obtain ⟨vs, q, r⟩ := s.seq (ea _ _ ha) g
    exact ⟨vs, q, Nat.le_of_eq r.length.symm⟩
  · obtain ⟨rfl, y⟩ := y
    obtain ⟨vs, q, r⟩ := s.seq (ea _ _ ha) g
    have e1 := y vs q
    obtain ⟨w, e2, e3⟩ := r.get' e1
    exact ⟨.refl _, s, w, e2, e3⟩
/-- a list or a tuple walked -/
@[irreducible] def qSeqI (K : ZIt → Store → Prop) : WK := fun x S1 => Bx ((∃ xs, x = .tup xs ∧ K ⟨xs, fun _ => True⟩ S1) ∨ ∃ n xs, x = .ref n ∧ IsLst S1 n xs ∧ K ⟨xs, fun S' => IsLst S' n xs⟩ S1)
def zSeqI (te : ZE) : ZTI := fun L S K => te L S (qSeqI K)
theorem zi_seq (hl : ZPE TB X l te) : ZPI TB X tg l (zSeqI te) := by
  refine ⟨⟨fun pins s σ H R I ⟨L, S, A, Kc, sk, lk, h, hR⟩ => ?_⟩⟩
  refine thn (hl.pe.run pins s σ H _ I ⟨L, S, A, _, sk, lk, h, fun v H' q => q⟩) fun v s1 ⟨x, H1, I1, r1, A1, S1, w1, ea, eh, s1', rr, q⟩ => ?_
  unfold qSeqI at q
  replace q := q.ok
  rcases q with ⟨xs, rfl, k⟩ | ⟨n, xs, rfl, hl, k⟩
  · cases rr with
    | tup h1 q1 =>
      cases r1
      obtain ⟨its, rv, p, hz⟩ := I1.tuple h1.sq
      refine wpAny_pyIter_tuple (show s1.heap.IsTuple _ its.toArray from p) ?_
      refine ⟨s1.heap.objs.size, [s1.heap.objs.size], _, _, H1, rfl, I1.kept (t' := s1.toks) fun b o e => Heap.get?_push_of_some _ e, turn_tuple _ _, ⟨_, Heap.get?_push_size _ rfl, rfl, rfl⟩, fun b hb => ?_, hR _ S1 A1 H1 _ ea eh s1' (wk_tup h1 q1) k⟩
      have e : b = s1.heap.objs.size := by simpa using hb
      subst e
      exact I1.fpOk (Nat.le_refl _) (I1.hok.fresh (Nat.le_refl _))
  · cases rr with
    | ref h1 =>
      cases r1
      obtain ⟨vs, hq, q1⟩ := s1'.seq h1 hl
      obtain ⟨its, rv, p, hz⟩ := I1.list hq
      refine wpAny_pyIter_list p.isList ?_
      refine ⟨s1.heap.objs.size, [s1.heap.objs.size], _, _, H1, rfl, I1.kept (t' := s1.toks) fun b o e => Heap.get?_push_of_some _ e, turn_list _ _, ⟨_, Heap.get?_push_size _ rfl, rfl, rfl⟩, fun b hb => ?_, hR _ S1 A1 H1 _ ea eh s1' (wk_list h1) k⟩
      have e : b = s1.heap.objs.size := by simpa using hb
      subst e
      exact I1.fpOk (Nat.le_refl _) (I1.hok.fresh (Nat.le_refl _))
/-- the ints lo, lo + 1, .. -/
def rangeW (lo : Int) (n : Nat) : List W := (List.range n).map fun i => .int (lo + (i : Nat))
theorem rangeW_length (lo : Int) (n : Nat) : (rangeW lo n).length = n := by simp [rangeW]
theorem rangeW_get {lo : Int} {n i : Nat} (h : i < n) : (rangeW lo n)[i]? = some (.int (lo + (i : Nat))) := by simp [rangeW, h]
theorem wk_range {K : PySem.W.Frag} {A : List Addr} {H : Hp} {lo : Int} {n : Nat} : Wk K TB A H ⟨rangeW lo n, fun _ => True⟩ (Itr lo n) := by
  refine ⟨fun i A' S' H' hi ea eh s _ => ?_, fun A' S' H' ea eh s _ => ?_, fun i A' S' H' x H'' hi ea eh s _ y => ?_⟩
  · exact (rangeW_length lo n) ▸ hi
  · exact Nat.le_of_eq (rangeW_length lo n).symm
  · obtain ⟨rfl, rfl⟩ := y
    exact ⟨.refl _, s, _, rangeW_get ((rangeW_length lo n) ▸ hi), .int _⟩
def qRng (K : ZIt → Store → Prop) : List W → Store → Prop := fun ws S1 => match ws with
  | [.int j] => (-(2 ^ 62) ≤ j ∧ j < 2 ^ 62) ∧ K ⟨rangeW 0 j.toNat, fun _ => True⟩ S1
  | _ => False
theorem qRng_ex {K : ZIt → Store → Prop} {ws : List W} {S1 : Store} (h : qRng K ws S1) : ∃ j, ws = [.int j] ∧ -(2 ^ 62) ≤ j ∧ j < 2 ^ 62 ∧ K ⟨rangeW 0 j.toNat, fun _ => True⟩ S1 := by
  unfold qRng at h
  split at h
  · exact ⟨_, rfl, h.1.1, h.1.2, h.2⟩
  · exact h.elim
def zRngI (ts : ZA) : ZTI := fun L S K => ts L S (qRng K)
def qRng2 (K : ZIt → Store → Prop) : List W → Store → Prop := fun ws S1 => match ws with
  | [.int i, .int j] => (-(2 ^ 62) ≤ i ∧ i < 2 ^ 62 ∧ -(2 ^ 62) ≤ j ∧ j < 2 ^ 62) ∧ K ⟨rangeW i (j - i).toNat, fun _ => True⟩ S1
  | _ => False
theorem qRng2_ex {K : ZIt → Store → Prop} {ws : List W} {S1 : Store} (h : qRng2 K ws S1) : ∃ i j, ws = [.int i, .int j] ∧ (-(2 ^ 62) ≤ i ∧ i < 2 ^ 62 ∧ -(2 ^ 62) ≤ j ∧ j < 2 ^ 62) ∧ K ⟨rangeW i (j - i).toNat, fun _ => True⟩ S1 := by
  unfold qRng2 at h
  split at h
  · exact ⟨_, _, rfl, h⟩
  · exact h.elim
def zRng2I (ts : ZA) : ZTI := fun L S K => ts L S (qRng2 K)
theorem zi_range1 (hg : Gl X "range") (hm : X.mg "range" = none) (ha : ZPA TB X [a] ts) (hs : starEach [a] X.env = [(false, eval a X.env)] := by rfl) : ZPI TB X tg (.Call (.Name "range" p) [a] [] pos) (zRngI ts) :=
  ⟨(pi_range1 hg hm ha.pa hs).conv fun σ H R ⟨L, S, A, Kc, sk, lk, h, hR⟩ => ⟨L, S, A, _, sk, lk, h, fun vs H1 ⟨A1, S1, ws, ea, eh, s1, r, h0⟩ => by
    obtain ⟨j, e, b1, b2, k⟩ := qRng_ex h0
    subst e
    cases r with
    | cons r1 r =>
      cases r1
      cases r
      exact ⟨j, rfl, b1, b2, hR _ S1 A1 H1 _ ea eh s1 wk_range k⟩⟩⟩
theorem zi_range2 (hg : Gl X "range") (hm : X.mg "range" = none) (ha : ZPA TB X [a, b] ts) (hs : starEach [a, b] X.env = [(false, eval a X.env), (false, eval b X.env)] := by rfl) (hs2 : starEach [b] X.env = [(false, eval b X.env)] := by rfl) :
    ZPI TB X tg (.Call (.Name "range" p) [a, b] [] pos) (zRng2I ts) :=
  ⟨(pi_range2 hg hm ha.pa hs hs2).conv fun σ H R ⟨L, S, A, Kc, sk, lk, h, hR⟩ => ⟨L, S, A, _, sk, lk, h, fun vs H1 ⟨A1, S1, ws, ea, eh, s1, r, h0⟩ => by
    obtain ⟨i, j, e, b, k⟩ := qRng2_ex h0
    subst e
    cases r with
    | cons r1 r =>
      cases r with
      | cons r2 r =>
        cases r1
        cases r2
        cases r
        exact ⟨i, j, rfl, b, hR _ S1 A1 H1 _ ea eh s1 wk_range k⟩⟩⟩

/-! ### for -/
variable {tb : ZS} {g : ZTG} {ti : ZTI} {body : List Stmt} {iter : Expr}
@[irreducible] def FlEnd (z : ZIt) (g : ZTG) (tb : ZS) (D : ZEnds) (L : Loc') (S1 : Store) : Prop := Bx (∃ P : Nat → Loc' → Store → Prop, P 0 L S1 ∧
  (∀ i w L S, z.its[i]? = some w → P i L S → z.G S ∧ g w L S fun L' S' => tb { D with nx := P (i + 1), ct := P (i + 1), bk := D.nx } L' S') ∧ ∀ L S, P z.its.length L S → z.G S ∧ D.nx L S)
def zFor (ti : ZTI) (g : ZTG) (tb : ZS) : ZS := fun D L S => ti L S fun z S1 => FlEnd z g tb D L S1
theorem z_for (hp : PassesOwn (model X.prog X.w) X.A X.env X.xe) (hc : X.calm = true) (hi : ZPI TB X tg iter ti) (hg : ZPG TB X tg g) (hb : ZPSs TB X body tb)
    (hs : ∀ x, foldedSetIterable iter X.env x = pure x := by intro _; rfl) : ZPS TB X (.For tg iter body [] pos) (zFor ti g tb) := by
  refine ⟨(ps_for hp hc hi.pi hg.pg hb.ps hs).conv fun D σ H ⟨L, S, A, ZD, sk, lk, h, k1, k2, k3, k4⟩ => ?_⟩
  refine ⟨L, S, A, _, sk, lk, h, fun z S1 A1 H1 J ea eh s1 wk h0 => ?_⟩
  unfold FlEnd at h0
  replace h0 := h0.ok
  obtain ⟨P, p0, ps, pd⟩ := h0
  refine ⟨fun i m σ' H' => m = z.its.length - i ∧ i ≤ z.its.length ∧ ∃ A' S' L', AExt A1 A' ∧ HExt H1 H' ∧ SOk X.K TB A' S' H' ∧ LOk X.K A' H' L' σ' ∧ P i L' S', ⟨z.its.length, by simp, Nat.zero_le _, A1, S1, L, .refl _, .refl _, s1, lk.mono ea eh, p0⟩, ?_⟩
  rintro i m σ2 H2 ⟨rfl, hi2, A2, S2, L2, ea2, eh2, s2, l2, p2⟩
  by_cases hlt : i < z.its.length
  · have hw := List.getElem?_eq_getElem hlt
    obtain ⟨g2, q2⟩ := ps i _ L2 S2 hw p2
    refine .inr ⟨wk.go i A2 S2 H2 hlt ea2 eh2 s2 g2, fun σ' H' => ∃ A' S' L', AExt A1 A' ∧ HExt H1 H' ∧ SOk X.K TB A' S' H' ∧ LOk X.K A' H' L' σ' ∧ P (i + 1) L' S', fun σ' H' n => ⟨z.its.length - (i + 1), by omega, rfl, hlt, n⟩, fun x H3 y => ?_⟩
    obtain ⟨eh3, s3, w, hw', rw'⟩ := wk.yld i A2 S2 H2 x H3 hlt ea2 eh2 s2 g2 y
    rw [hw] at hw'
    cases hw'
    refine ⟨L2, S2, A2, _, _, s3, l2.mono (.refl _) eh3, rw', q2, fun σ4 H4 ⟨A4, S4, L4, ea4, eh4, s4, l4, q4⟩ => ?_⟩
    have EA := (ea2.trans ea4)
    have EH := (eh2.trans eh3).trans eh4
    refine lowS_of s4 l4 q4 (fun σ5 H5 ⟨A5, S5, L5, ea5, eh5, s5, l5, q5⟩ => ⟨A5, S5, L5, EA.trans ea5, EH.trans eh5, s5, l5, q5⟩) (fun v H5 q5 => k2 _ _ (q5.on (ea.trans EA) (eh.trans EH)))
      (fun σ5 H5 q5 => k1 _ _ (q5.on (ea.trans EA) (eh.trans EH))) (fun σ5 H5 ⟨A5, S5, L5, ea5, eh5, s5, l5, q5⟩ => ⟨A5, S5, L5, EA.trans ea5, EH.trans eh5, s5, l5, q5⟩)
  · have e : i = z.its.length := by omega
    subst e
    obtain ⟨g2, q2⟩ := pd L2 S2 p2
    exact .inl ⟨wk.stop A2 S2 H2 ea2 eh2 s2 g2, k1 _ _ ⟨A2, S2, L2, ea.trans ea2, eh.trans eh2, s2, l2, q2⟩⟩

/-! ### while -/
@[irreducible] def WhEnd (c : ZT) (tb : ZS) (D : ZEnds) (L : Loc') (S : Store) : Prop := Bx (∃ (P : Nat → Loc' → Store → Prop), (∃ m, P m L S) ∧
  ∀ m L S, P m L S → c L S fun b S1 => qIf b (tb { D with nx := fun L' S' => ∃ m', m' < m ∧ P m' L' S', ct := fun L' S' => ∃ m', m' < m ∧ P m' L' S', bk := D.nx } L S1) (D.nx L S1))
def zWhile (c : ZT) (tb : ZS) : ZS := fun D L S => WhEnd c tb D L S
theorem z_while {c : Expr} {tt : ZT} (hp : PassesOwn (model X.prog X.w) X.A X.env X.xe) (hc : ZPT TB X c tt) (hb : ZPSs TB X body tb) : ZPS TB X (.While c body [] pos) (zWhile tt tb) := by
  refine ⟨(ps_while hp hc.pt hb.ps).conv fun D σ H ⟨L, S, A, ZD, sk, lk, h0, k1, k2, k3, k4⟩ => ?_⟩
  replace h0 : WhEnd tt tb ZD L S := h0
  unfold WhEnd at h0
  replace h0 := h0.ok
  obtain ⟨P, ⟨m0, p0⟩, ps⟩ := h0
  let W' : Nat → L2.St → Hp → Prop := fun m σ' H' => ∃ A' S' L', AExt A A' ∧ HExt H H' ∧ SOk X.K TB A' S' H' ∧ LOk X.K A' H' L' σ' ∧ P m L' S'
  refine ⟨W', ⟨m0, A, S, L, .refl _, .refl _, sk, lk, p0⟩, ?_⟩
  rintro m σ2 H2 ⟨A2, S2, L2, ea2, eh2, s2, l2, p2⟩
  refine ⟨L2, S2, A2, _, s2, l2, ps m L2 S2 p2, fun b H3 ⟨A3, S3, ea3, eh3, s3, q3⟩ => ?_⟩
  have EA := ea2.trans ea3
  have EH := eh2.trans eh3
  cases b with
  | true =>
    dsimp only at q3 ⊢
    rw [qIf_t] at q3
    rw [if_pos rfl]
    refine ⟨fun σ' H' => ∃ m', m' < m ∧ W' m' σ' H', fun σ' H' n => n, ?_⟩
    refine lowS_of s3 (l2.mono ea3 eh3) q3 (fun σ5 H5 ⟨A5, S5, L5, ea5, eh5, s5, l5, m', hm, q5⟩ => ⟨m', hm, A5, S5, L5, EA.trans ea5, EH.trans eh5, s5, l5, q5⟩) (fun v H5 q5 => k2 _ _ (q5.on EA EH))
      (fun σ5 H5 q5 => k1 _ _ (q5.on EA EH)) (fun σ5 H5 ⟨A5, S5, L5, ea5, eh5, s5, l5, m', hm, q5⟩ => ⟨m', hm, A5, S5, L5, EA.trans ea5, EH.trans eh5, s5, l5, q5⟩)
  | false =>
    dsimp only at q3 ⊢
    rw [qIf_f] at q3
    rw [if_neg Bool.false_ne_true]
    exact k1 _ _ ⟨A3, S3, L2, EA, EH, s3, l2.mono ea3 eh3, q3⟩

/-! ### list comprehensions, one clause -/
/-- the slots of the block's own names forgotten -/
def wipeL (L : Loc') : List Nat → Loc'
  | [] => L
  | v :: vs => (wipeL L vs).set v none
theorem LOk.forget {K : PySem.W.Frag} {A : List Addr} {H : Hp} {L : Loc'} {σ : L2.St} (h : LOk K A H L σ) (i : Nat) : LOk K A H (L.set i none) (σ.set i none) := by
  refine ⟨by simp [h.1], fun j x e => ?_⟩
  by_cases hj : i = j
  · subst hj
    by_cases hi : i < L.length
    · rw [List.getElem?_set_self hi] at e; cases e
    · rw [List.getElem?_eq_none (by simpa using hi)] at e; cases e
  · rw [List.getElem?_set_ne hj] at e
    obtain ⟨v', h1, h2⟩ := h.2 j x e
    exact ⟨v', by rw [List.getElem?_set_ne hj]; exact h1, h2⟩
theorem LOk.wipe {K : PySem.W.Frag} {A : List Addr} {H : Hp} {L : Loc'} {σ : L2.St} (h : LOk K A H L σ) : ∀ vs : List Nat, LOk K A H (wipeL L vs) (L2.wipe σ vs)
  | [] => h
  | v :: vs => (LOk.wipe h vs).forget v
/-- a target whose names are the block's own -/
def lowGc (K : PySem.W.Frag) (TB : List Addr) (vs : List Nat) (t : ZTG) : TG := fun v σ H Q => ∃ L S A w Kc, SOk K TB A S H ∧ LOk K A H L σ ∧ Rep K A H w v ∧ t w L S Kc ∧ ∀ σ' H', AftS K TB A H Kc σ' H' → L2.wipe σ' vs = L2.wipe σ vs → Q σ' H'
def lowGcs (K : PySem.W.Frag) (TB : List Addr) (vs : List Nat) (t : ZTGs) : TGs := fun v σ H Q => ∃ L S A w Kc, SOk K TB A S H ∧ LOk K A H L σ ∧ Reps K A H w v ∧ t w L S Kc ∧ ∀ σ' H', AftS K TB A H Kc σ' H' → L2.wipe σ' vs = L2.wipe σ vs → Q σ' H'
structure ZPGc (TB : List Addr) (vs : List Nat) (X : Cx) (e : Expr) (t : ZTG) : Prop where
  pg : PG X e (lowGc X.K TB vs t)
structure ZPGcs (TB : List Addr) (vs : List Nat) (X : Cx) (e : List Expr) (t : ZTGs) : Prop where
  pg : PGs X e (lowGcs X.K TB vs t)
theorem wipe_set {σ : L2.St} {i : Nat} {v : Option V} : ∀ {vs : List Nat}, i ∈ vs → L2.wipe (σ.set i v) vs = L2.wipe σ vs
  | [], h => by cases h
  | j :: vs, h => by
    unfold L2.wipe
    rcases List.mem_cons.mp h with e | h
    · subst e
      have key : ∀ (vs : List Nat), (L2.wipe (σ.set i v) vs).set i none = (L2.wipe σ vs).set i none := by
        intro vs
        induction vs with
        | nil => unfold L2.wipe; rw [List.set_set]
        | cons k ks ih =>
          unfold L2.wipe
          by_cases hk : k = i
          · subst hk
            rw [List.set_set, List.set_set]
            exact ih
          · rw [List.set_comm _ _ hk, List.set_comm _ _ hk, ih]
      exact key vs
    · rw [wipe_set h]
theorem zgc_name {vs : List Nat} {i : Nat} {x : Str} (hN : X.N.Nodup) (hi : X.N[i]? = some x) (hx : Loc X.env.scope x) (hv : i ∈ vs) (hf : X.fn x = true ∨ X.env.scope.names.lookup x = some .local := by first | exact .inl rfl | exact .inr rfl | assumption) : ZPGc TB vs X (.Name x pos) (zgName i) :=
  ⟨(pg_name hN hi hx hf).conv fun v σ H Q ⟨L, S, A, w, Kc, s, l, r, h, hQ⟩ => hQ _ _ (.here s (l.set r i) (qLet_iff.mp h)) (wipe_set hv)⟩
theorem zgcs_nil {vs : List Nat} : ZPGcs TB vs X [] zgNil := ⟨pgs_nil.conv fun v σ H Q ⟨L, S, A, w, Kc, s, l, r, h0, hQ⟩ => by
  obtain ⟨e, h⟩ := zgNil_ex h0
  subst e
  cases r
  exact ⟨rfl, hQ _ _ (.here s l h) rfl⟩⟩
theorem zgcs_cons {vs : List Nat} {es : List Expr} {t : ZTG} {u : ZTGs} (h1 : ZPGc TB vs X e t) (h2 : ZPGcs TB vs X es u)
    (hs : (assignEach (e :: es) X.env).map (·.2) = assign e X.env :: (assignEach es X.env).map (·.2) := by rfl) : ZPGcs TB vs X (e :: es) (zgCons t u) := ⟨(pgs_cons h1.pg h2.pg hs).conv fun v σ H Q ⟨L, S, A, w, Kc, s, l, r, h0, hQ⟩ => by
  obtain ⟨w1, wr, e, h⟩ := zgCons_ex h0
  subst e
  cases r with
  | cons r1 r2 =>
    exact ⟨_, _, rfl, L, S, A, w1, _, s, l, r1, h, fun σ' H' ⟨A1, S1, L1, ea, eh, s1, l1, q⟩ e1 => ⟨L1, S1, A1, wr, _, s1, l1, r2.mono ea eh, q, fun _ _ z e2 => hQ _ _ (z.on ea eh) (e2.trans e1)⟩⟩⟩
theorem zgc_tup {vs : List Nat} {es : List Expr} {k : Nat} {t : ZTGs} {n : Nat} (hc : X.calm = true) (h : ZPGcs TB vs X es t)
    (hn : (assignEach es X.env).length = n := by rfl) (hst : (assignEach es X.env).findIdx? (·.1) = none := by rfl) : ZPGc TB vs X (.Tuple es k pos) (zgTup n t) :=
  ⟨(pg_tup hc h.pg hn hst).conv fun v σ H Q ⟨L, S, A, w, Kc, s, l, r, h0, hQ⟩ => by
    obtain ⟨ws, e, hl, h⟩ := zgTup_ex h0
    subst e
    cases r with
    | tup h1 r1 => exact ⟨_, _, rfl, h1.sq, by rw [← r1.length]; exact hl, L, S, A, ws, Kc, s, l, r1, h, hQ⟩⟩
structure ZPTs (TB : List Addr) (X : Cx) (ifs : List Expr) (t : ZT) : Prop where
  pt : PTs X ifs (lowT X.K TB t)
theorem zts_nil : ZPTs TB X [] (fun _ S K => K true S) := ⟨⟨fun pins s σ H Q I ⟨L, S, A, Kc, sk, lk, h, hQ⟩ => pts_nil.run pins s σ H Q I (hQ _ _ ⟨A, S, .refl _, .refl _, sk, h⟩)⟩⟩
theorem zts_one {c : Expr} {t : ZT} (h : ZPT TB X c t) : ZPTs TB X [c] t := ⟨pts_one h.pt⟩
@[irreducible] def qPush (n : Nat) (acc : List W) (y : W) (S5 : Store) (KS : List W → Store → Prop) : Prop := Bx (S5[n]? = some (.lst acc) ∧ acc.length < sizeLine ∧ KS (acc ++ [y]) (S5.set n (.lst (acc ++ [y]))))
@[irreducible] def LcEnd (z : ZIt) (g : ZTG) (tt : ZT) (te : ZE) (vs : List Nat) (L : Loc') (S1 : Store) (K : WK) : Prop := Bx (∃ P : Nat → List W → Store → Prop, P 0 [] (S1 ++ [.lst []]) ∧
  (∀ i acc w S2, z.its[i]? = some w → P i acc S2 → z.G S2 ∧ S2[S1.length]? = some (.lst acc) ∧ g w (wipeL L vs) S2 fun L' S3 => tt L' S3 fun b S4 =>
    qIf b (te L' S4 fun y S5 => qPush S1.length acc y S5 (P (i + 1))) (P (i + 1) acc S4)) ∧
  ∀ acc S2, P z.its.length acc S2 → z.G S2 ∧ K (.ref S1.length) S2)
def zLc (ti : ZTI) (g : ZTG) (tt : ZT) (te : ZE) (vs : List Nat) : ZE := fun L S K => ti L S fun z S1 => LcEnd z g tt te vs L S1 K
theorem lc_low {K : PySem.W.Frag} {tt : ZT} {te : ZE} {vs : List Nat} {σ : L2.St} {H : Hp} {Q : VK} (h : low K TB (zLc ti g tt te vs) σ H Q) : tLc (lowI K TB ti) (lowGc K TB vs g) (lowT K TB tt) (low K TB te) vs σ H Q := by
  obtain ⟨L, S, A, Kc, sk, lk, h, hQ⟩ := h
  refine ⟨L, S, A, _, sk, lk, h, fun z S1 A1 H1 J ea eh s1 wk h0 D hD => ?_⟩
  unfold LcEnd at h0
  replace h0 := h0.ok
  obtain ⟨P, p0, ps, pd⟩ := h0
  have eaD := AExt.snoc A1 D
  have ehD : HExt H1 (upd H1 D (.lst [])) := .new hD
  have sD : SOk K TB (A1 ++ [D]) (S1 ++ [.lst []]) (upd H1 D (.lst [])) := s1.new hD (.lst' upd_same .nil)
  have hDn : (A1 ++ [D])[S1.length]? = some D := by rw [← s1.len]; simp
  let W' : Nat → Hp → Prop := fun i H' => ∃ A' S' acc, AExt (A1 ++ [D]) A' ∧ HExt (upd H1 D (.lst [])) H' ∧ SOk K TB A' S' H' ∧ P i acc S'
  refine ⟨fun i m H' => m = z.its.length - i ∧ i ≤ z.its.length ∧ W' i H', ⟨z.its.length, by simp, Nat.zero_le _, _, _, [], .refl _, .refl _, sD, p0⟩, ?_⟩
  rintro i m H2 ⟨rfl, hi2, A2, S2, acc, ea2, eh2, s2, p2⟩
  have EA := eaD.trans ea2
  have EH := ehD.trans eh2
  by_cases hlt : i < z.its.length
  · have hw := List.getElem?_eq_getElem hlt
    obtain ⟨g2, hS2, q2⟩ := ps i acc _ S2 hw p2
    refine .inr ⟨wk.go i A2 S2 H2 hlt EA EH s2 g2, W' (i + 1), fun H' n => ⟨z.its.length - (i + 1), by omega, rfl, hlt, n⟩, fun x H3 y => ?_⟩
    obtain ⟨eh3, s3, w, hw', rw'⟩ := wk.yld i A2 S2 H2 x H3 hlt EA EH s2 g2 y
    rw [hw] at hw'
    cases hw'
    refine ⟨wipeL L vs, S2, A2, _, _, s3, ((lk.mono (ea.trans EA) ((eh.trans EH).trans eh3)).wipe vs), rw', q2, fun σ4 H4 ⟨A4, S4, L4, ea4, eh4, s4, l4, q4⟩ e4 => ⟨?_, ?_⟩⟩
    · have idem : ∀ (vs : List Nat) (σ : L2.St), L2.wipe (L2.wipe σ vs) vs = L2.wipe σ vs := by
        have key : ∀ (us vs : List Nat) (σ : L2.St), (∀ u ∈ us, u ∈ vs) → L2.wipe (L2.wipe σ us) vs = L2.wipe σ vs := by
          intro us
          induction us with
          | nil => intro vs σ _; rfl
          | cons u us ih =>
            intro vs σ hu
            show L2.wipe ((L2.wipe σ us).set u none) vs = _
            rw [wipe_set (hu u List.mem_cons_self)]
            exact ih vs σ fun x hx => hu x (List.mem_cons_of_mem _ hx)
        intro vs σ
        exact key vs vs σ fun _ h => h
      rw [e4, idem]
    · refine ⟨L4, S4, A4, _, s4, l4, q4, fun b H5 ⟨A5, S5, ea5, eh5, s5, q5⟩ => ?_⟩
      have EA5 := (ea2.trans ea4).trans ea5
      have EH5 := ((eh2.trans eh3).trans eh4).trans eh5
      cases b with
      | false =>
        dsimp only at q5 ⊢
        rw [qIf_f] at q5
        rw [if_neg Bool.false_ne_true]
        exact ⟨A5, S5, acc, EA5, EH5, s5, q5⟩
      | true =>
        dsimp only at q5 ⊢
        rw [qIf_t] at q5
        rw [if_pos rfl]
        refine ⟨L4, S5, A5, _, s5, l4.mono ea5 eh5, q5, fun v6 H6 ⟨A6, S6, w6, ea6, eh6, s6, r6, p7⟩ => ?_⟩
        unfold qPush at p7
        obtain ⟨hS6, hz, p6⟩ := p7.ok
        have hA6 := (EA5.trans ea6) _ _ hDn
        obtain ⟨us, f, q⟩ := s6.lst hA6 hS6
        refine ⟨us, f, by rw [← q.length]; exact hz, ?_⟩
        obtain ⟨s7, eh7⟩ := s6.write (o' := .lst (acc ++ [w6])) (u := .lst (us ++ [v6])) hA6 hS6 rfl rfl fun eh => .lst' upd_same ((q.append (.cons r6 .nil)).mono (.refl _) eh)
        exact ⟨A6, _, acc ++ [w6], EA5.trans ea6, (EH5.trans eh6).trans eh7, s7, p6⟩
  · have e : i = z.its.length := by omega
    subst e
    obtain ⟨g2, q2⟩ := pd acc S2 p2
    exact .inl ⟨wk.stop A2 S2 H2 EA EH s2 g2, hQ _ _ ⟨A2, S2, .ref S1.length, ea.trans EA, eh.trans EH, s2, .ref (ea2 _ _ hDn), q2⟩⟩
theorem z_lc {elt : Expr} {ifs : List Expr} {scope : Scope} {own : List (Str × Nat)} {tt : ZT} {te : ZE} (hc : X.calm = true) (hN : X.N.Nodup) (hi : ZPI TB X tg iter ti) (ok : BlkOk X.N X.env.scope scope own)
    (hg : ∀ (s : Shared) (H : Hp) (C : Addr) (cl : List (Str × Addr)) (fp : List Addr), ZPGc TB (own.map (·.2)) (X.blk s H scope (compEnvC scope cl C X.env) fp) tg g) (ht : ∀ (s : Shared) (H : Hp) (C : Addr) (cl : List (Str × Addr)) (fp : List Addr), ZPTs TB (X.blk s H scope (compEnvC scope cl C X.env) fp) ifs tt)
    (he : ∀ (s : Shared) (H : Hp) (C : Addr) (cl : List (Str × Addr)) (fp : List Addr), ZPE TB (X.blk s H scope (compEnvC scope cl C X.env) fp) elt te) (hs : ∀ x, foldedSetIterable iter X.env x = pure x := by intro _; rfl) :
    ZPE TB X (.ListComp elt [⟨tg, iter, ifs, 0⟩] scope pos) (zLc ti g tt te (own.map (·.2))) :=
  ⟨(pe_lc hc hN hi.pi ok (fun s H C cl fp => (hg s H C cl fp).pg) (fun s H C cl fp => (ht s H C cl fp).pt) (fun s H C cl fp => (he s H C cl fp).pe) hs).conv fun σ H Q h => lc_low h⟩
/-- name = [..] on one line, the name a local -/
theorem z_setLc {i : Nat} {y : Str} {py spos : Pos} {elt : Expr} {ifs : List Expr} {scope : Scope} {own : List (Str × Nat)} {tt : ZT} {te : ZE} (hc : X.calm = true) (hN : X.N.Nodup) (hy : X.N[i]? = some y) (hyl : X.env.scope.names.lookup y = some .local)
    (hsw : swapsWith (.ListComp elt [⟨tg, iter, ifs, 0⟩] scope pos) (some (.Name y py)) spos.line X.env = pure true) (hi : ZPI TB X tg iter ti) (ok : BlkOk X.N X.env.scope scope own)
    (hg : ∀ (s : Shared) (H : Hp) (C : Addr) (cl : List (Str × Addr)) (fp : List Addr), ZPGc TB (own.map (·.2)) (X.blk s H scope (compEnvC scope cl C X.env) fp) tg g) (ht : ∀ (s : Shared) (H : Hp) (C : Addr) (cl : List (Str × Addr)) (fp : List Addr), ZPTs TB (X.blk s H scope (compEnvC scope cl C X.env) fp) ifs tt)
    (he : ∀ (s : Shared) (H : Hp) (C : Addr) (cl : List (Str × Addr)) (fp : List Addr), ZPE TB (X.blk s H scope (compEnvC scope cl C X.env) fp) elt te) (hs : ∀ x, foldedSetIterable iter X.env x = pure x := by intro _; rfl) :
    ZPS TB X (.Assign [.Name y py] (.ListComp elt [⟨tg, iter, ifs, 0⟩] scope pos) spos) (zAsg (zLc ti g tt te (own.map (·.2))) (zgName i)) :=
  ⟨(ps_setLc hc hN hy hyl hsw hi.pi ok (fun s H C cl fp => (hg s H C cl fp).pg) (fun s H C cl fp => (ht s H C cl fp).pt) (fun s H C cl fp => (he s H C cl fp).pe) hs).conv fun D σ H ⟨L, S, A, ZD, sk, lk, h, k1, _⟩ =>
    lc_low ⟨L, S, A, _, sk, lk, h, fun v H' ⟨A1, S1, w, ea, eh, s1, r, q⟩ => k1 _ _ ⟨A1, S1, _, ea, eh, s1, (lk.mono ea eh).set r i, qLet_iff.mp q⟩⟩⟩
end
end Z

set_option maxHeartbeats 2000000
/-! Z7: a def by its body; the law's end. -/
namespace Z
open PySem PySem.Spec PyProof.Rows L2
def startL (N : Nat) (ws : List W) : Loc' := ws.map some ++ List.replicate (N - ws.length) none
theorem lok_start {K : PySem.W.Frag} {A : List Addr} {H : Hp} {ws : List W} {vs : List V} (N : List Str) (r : Reps K A H ws vs) : LOk K A H (startL N.length ws) (L2.start N vs) := by
  have hl := r.length
  refine ⟨by simp [startL, L2.start, hl], fun i w e => ?_⟩
  unfold startL at e
  by_cases hi : i < ws.length
  · rw [List.getElem?_append_left (by simpa using hi), List.getElem?_map] at e
    cases e1 : ws[i]? with
    | none => rw [e1] at e; cases e
    | some w' =>
      rw [e1] at e
      have e2 : w' = w := by simpa using e
      subst e2
      obtain ⟨v, h1, h2⟩ := r.get e1
      refine ⟨v, ?_, h2⟩
      unfold L2.start
      rw [List.getElem?_append_left (by simp; omega), List.getElem?_map, h1]
      rfl
  · rw [List.getElem?_append_right (by simpa using hi), List.getElem?_replicate] at e
    split at e <;> cases e
section
variable {P : Program} {w : World} {K : PySem.W.Frag} {mg : Str → Option Value} {base : Heap} {TB : List Addr}
/-- THE RULE for a def -/
theorem fn_z {x qual : Str} {st : Stmt} {f : Addr} {fd : FuncData} {N ps : List Str} {k : Nat} {sp : ZC} {t : ZS} (F : Fun K x qual st f fd) (S : FnScope N ps (defScope st))
    (hbody : ∀ (cdv : Value) (A : Around) (outer : List Env) (s : Shared) (H : Hp) (E : XK), Room k (A.deeper (envOfC qual (defScope st) s.heap.objs.size f cdv)) → ZPSs TB (cxOf CX0 P w K mg base N qual (defScope st) f cdv A outer s H E).nox (defBody st) t)
    (h : ∀ ws S Kc, sp ws S Kc → ws.length = ps.length → t { nx := fun _ S' => Kc .non S', rt := Kc } (startL N.length ws) S) : ZFn P w K mg base TB (k + 1) f fd ps sp := by
  refine F.ok S (fun vs H Q E h => h.1) fun cdv A outer s H vs Q E hr ⟨hl, A0, S0, ws, Kc, sk, r, hsp, hQ⟩ => ?_
  refine ⟨_, (hbody cdv A outer s H E hr).ps, ?_⟩
  exact lowS_of sk (lok_start N r) (h ws S0 Kc hsp (by rw [r.length]; exact hl)) (fun σ' H' ⟨A1, S1, L1, ea, eh, s1, l1, q⟩ => hQ _ _ ⟨A1, S1, .non, ea, eh, s1, .non, q⟩) (fun v H' q => hQ _ _ q)
    (fun _ _ ⟨_, _, _, _, _, _, _, q⟩ => q.elim) (fun _ _ ⟨_, _, _, _, _, _, _, q⟩ => q.elim)
/-- a def of the text that may be called by its name -/
structure Cal (P : Program) (w : World) (K : PySem.W.Frag) (mg : Str → Option Value) (base : Heap) (TB : List Addr) (k : Nat) (x : Str) (n : Nat) (sp : ZC) : Prop where
  ex : ∃ (f : Addr) (fd : FuncData) (ps : List Str), ps.length = n ∧ ZFn P w K mg base TB k f fd ps sp ∧ mg x = some (.ref f) ∧ PySem.W.keepIn K (.ref f) = true ∧ Binds K fd ps []
theorem Cal.mono {k j : Nat} {x : Str} {n : Nat} {sp : ZC} (c : Cal P w K mg base TB k x n sp) (h : k ≤ j) : Cal P w K mg base TB j x n sp := by
  obtain ⟨f, fd, ps, a, b, c⟩ := c.ex
  exact ⟨f, fd, ps, a, b.mono h, c⟩
theorem Cal.imp {k : Nat} {x : Str} {n : Nat} {sp sp' : ZC} (c : Cal P w K mg base TB k x n sp) (h : ∀ ws S Kc, sp' ws S Kc → sp ws S Kc) : Cal P w K mg base TB k x n sp' := by
  obtain ⟨f, fd, ps, a, b, c⟩ := c.ex
  exact ⟨f, fd, ps, a, b.imp fun vs H Q E ⟨h1, A0, S0, ws, Kc, sk, r, hsp, hQ⟩ => ⟨h1, A0, S0, ws, Kc, sk, r, h _ _ _ hsp, hQ⟩, c⟩
end
section
variable {X : Cx} {TB : List Addr} {e : Expr} {es : List Expr} {ts : ZA} {pos p : Pos} {x : Str} {k n : Nat} {sp : ZC}
theorem z_cal (C : Cal X.prog X.w X.K X.mg X.base TB k x n sp) (hr : Room k X.A) (hg : Gl X x) (ha : ZPA TB X (e :: es) ts) (hdb : (x == ("__debug__" : Str)) = false := by decide)
    (he : starEach (e :: es) X.env = (false, eval e X.env) :: starEach es X.env := by rfl) (hpl : (backTo pos (starEach es X.env)).any (·.1) = false := by rfl) : ZPE TB X (.Call (.Name x p) (e :: es) [] pos) (zCallF n sp ts) := by
  obtain ⟨f, fd, ps, rfl, F, hm, hk, hb⟩ := C.ex
  exact z_call F hr hg hm hk hb ha hdb he hpl
end
/-- the law's promise from the store's: the script as a list that nobody writes -/
theorem law_z {K : PySem.W.Frag} {P : Program} {w : World} {mg : Str → Option Value} {base : Heap} {k : Nat} {f : Addr} {fd : FuncData} {sp : ZC}
    (F : ZFn P w K mg base [] k f fd ["script"] sp) (h : ∀ ns : List Int, ns.length ≤ 63 → ∀ Kc : WK, (∀ S', Kc (.bl true) S') → sp [.ref 0] [.frz (ns.map W.int)] Kc) :
    FnOk P w K mg base CX0 k f fd ["script"] (fun vs H Q _ => ∃ (a : Addr) (ns : List Int), vs = [.ref a] ∧ ns.length ≤ 63 ∧ Only H ∧ SqL K H a (ns.map V.int) ∧ ∀ H', Q (.bl true) H') := by
  refine F.imp fun vs H Q E ⟨a, ns, e, hl, ho, hS, q⟩ => ?_
  subst e
  have fz : FrzAt K H a (ns.map V.int) := by
    rcases hS with (hS | hS) | hS
    · rcases ho a with z | ⟨o, xs, z⟩ <;> rw [hS] at z <;> cases z
    · exact .inl hS
    · exact .inr hS
  have rs : ∀ ns : List Int, Reps K [a] H (ns.map W.int) (ns.map V.int) := by
    intro ns
    induction ns with
    | nil => exact .nil
    | cons n ns ih => exact .cons (.int n) ih
  refine ⟨rfl, [a], [.frz (ns.map W.int)], [.ref 0], fun w S' => w = .bl true, ?_, .cons (.ref rfl) .nil, h ns hl _ fun _ => rfl, fun v H' ⟨A', S', w', _, _, _, r, e⟩ => ?_⟩
  · refine ⟨rfl, fun i j b o u h1 h2 h3 h4 m1 _ => ?_, fun n b o h1 h2 => ?_, fun P hP => nomatch hP⟩
    · cases i with
      | zero => cases h3; cases m1
      | succ i => cases h3
    · cases n with
      | zero =>
        cases h1
        cases h2
        exact Exists.intro _ ⟨fz, rs ns⟩
      | succ n => cases h1
  · subst e
    cases r
    exact q _
end Z

set_option maxHeartbeats 2000000
/-! Z8: keywords' calls; sorted of ints. -/
namespace Z
open PySem PySem.Spec PyProof.Rows L2
theorem hu65 {A : Around} {k : Nat} (hr : Room k A) : A.units + 65 < cLine := by have := hr.un; omega
section
variable {X : Cx} {TB : List Addr} {e : Expr} {es : List Expr} {kws : List Keyword} {ts tr : ZA} {te : ZE} {pos p kpos : Pos} {x : Str} {k n : Nat} {sp : ZC} {nm : Option Str}
structure ZPK (TB : List Addr) (X : Cx) (es : List Keyword) (t : ZA) : Prop where
  pk : PK X es (lowA X.K TB t)
theorem _root_.L2.PK.conv {T T' : TA} (h : PK X kws T) (c : ∀ σ H Q, T' σ H Q → T σ H Q) : PK X kws T' := ⟨fun pos pins s σ H Q I q => h.run pos pins s σ H Q I (c σ H Q q)⟩
theorem zpk_nil : ZPK TB X [] zNil := ⟨pk_nil.conv fun σ H Q ⟨L, S, A, Kc, s, l, h, hQ⟩ => hQ _ _ ⟨A, S, [], .refl _, .refl _, s, .nil, h⟩⟩
theorem zpk_cons (ha : ZPE TB X e te) (hr : ZPK TB X kws tr) : ZPK TB X (⟨nm, e, kpos⟩ :: kws) (zCons te tr) :=
  ⟨(pk_cons ha.pe hr.pk).conv fun σ H Q ⟨L, S, A, Kc, s, l, h, hQ⟩ => ⟨L, S, A, _, s, l, h, fun v1 H1 ⟨A1, S1, w1, ea1, eh1, s1, r1, h1⟩ =>
    ⟨L, S1, A1, _, s1, l.mono ea1 eh1, h1, fun vs H2 ⟨A2, S2, ws, ea2, eh2, s2, r2, h2⟩ => hQ _ _ ⟨A2, S2, w1 :: ws, ea1.trans ea2, eh1.trans eh2, s2, .cons (r1.mono ea2 eh2) r2, h2⟩⟩⟩⟩
/-- the values in the parameters' order -/
def pick {α : Type} (perm : List Nat) (ws : List α) : List α := perm.filterMap fun i => ws[i]?
theorem vals_pick {vs : List V} {us : List Value} (r : Vals vs us) : ∀ perm : List Nat, Vals (pick perm vs) (pick perm us)
  | [] => .nil
  | i :: is => by
    unfold pick
    cases h : vs[i]? with
    | none => rw [List.filterMap_cons_none h, List.filterMap_cons_none (r.none_of h)]; exact vals_pick r is
    | some v =>
      obtain ⟨u, hu, ru⟩ := r.get h
      rw [List.filterMap_cons_some h, List.filterMap_cons_some hu]
      exact .cons ru (vals_pick r is)
theorem Reps.pick {K : PySem.W.Frag} {A : List Addr} {H : Hp} {ws : List W} {vs : List V} (r : Reps K A H ws vs) : ∀ perm : List Nat, Reps K A H (Z.pick perm ws) (Z.pick perm vs)
  | [] => .nil
  | i :: is => by
    unfold Z.pick
    cases h : ws[i]? with
    | none =>
      have h2 : vs[i]? = none := List.getElem?_eq_none_iff.mpr (by rw [← r.length]; exact List.getElem?_eq_none_iff.mp h)
      rw [List.filterMap_cons_none h, List.filterMap_cons_none h2]; exact Reps.pick r is
    | some v =>
      obtain ⟨u, hu, ru⟩ := r.get h
      rw [List.filterMap_cons_some h, List.filterMap_cons_some hu]
      exact .cons ru (Reps.pick r is)
/-- a def called by keywords alone -/
structure CalK (P : Program) (w : World) (K : PySem.W.Frag) (mg : Str → Option Value) (base : Heap) (TB : List Addr) (k : Nat) (x : Str) (n : Nat) (ks : List Str) (perm : List Nat) (sp : ZC) : Prop where
  ex : ∃ (f : Addr) (fd : FuncData) (ps : List Str), ps.length = n ∧ ZFn P w K mg base TB k f fd ps sp ∧ mg x = some (.ref f) ∧ PySem.W.keepIn K (.ref f) = true ∧
    ∀ (s : Shared) (ws : List Value), (pick perm ws).length = ps.length → BindsTo s fd ⟨[], ks.zip ws⟩ (ps.zip (pick perm ws))
theorem CalK.mono {P : Program} {w : World} {K : PySem.W.Frag} {mg : Str → Option Value} {base : Heap} {ks : List Str} {perm : List Nat} {j : Nat} (c : CalK P w K mg base TB k x n ks perm sp) (h : k ≤ j) : CalK P w K mg base TB j x n ks perm sp := by
  obtain ⟨f, fd, ps, a, b, c⟩ := c.ex
  exact ⟨f, fd, ps, a, b.mono h, c⟩
def zCallK (n : Nat) (perm : List Nat) (r : ZC) (ts : ZA) : ZE := fun L S K => ts L S fun ws S1 => qAr (pick perm ws).length n (r (pick perm ws) S1 K)
theorem run_fnk0 {CX : CXT} {f : Addr} {fd : FuncData} {ps ks : List Str} {sp : Sp} {E : XK} {perm : List Nat} {pins : List (Addr × Obj)} {σ : L2.St} {H : Hp} {s : Shared} {Q : VK} {ws : List Value} {zs : List V} (F : FnOk X.prog X.w X.K X.mg X.base CX k f fd ps sp) (hr : Room k X.A)
    (hb : ∀ (s : Shared) (ws : List Value), (pick perm ws).length = ps.length → BindsTo s fd ⟨[], ks.zip ws⟩ (ps.zip (pick perm ws))) (hx : Passes CX X E)
    (I : Inv X pins σ H s) (rz : Vals zs ws) (h : sp (pick perm zs) H Q E) : wpAny (model X.prog X.w) X.A (call (.ref f) [] (ks.zip ws)) (EP X pins σ Q) X.xe s := by
  have r2 := vals_pick rz perm
  have hl : (pick perm ws).length = ps.length := by rw [← r2.length]; exact F.len _ _ _ _ h
  refine wpAny_call (codeAny_mono (F.run X.A X.stack s H ⟨[], ks.zip ws⟩ (pick perm ws) (pick perm zs) Q E hr I.env0 (hb s ws hl) r2 h) fun r s' hq => ?_)
  cases r with
  | error e => exact hx pins σ H s e s' I hq
  | ok fl =>
    cases fl with
    | ret u => exact I.after hq
    | next => exact False.elim hq
    | brk => exact False.elim hq
    | cont => exact False.elim hq
theorem pe_callK0 {CX : CXT} {f : Addr} {fd : FuncData} {ps ks : List Str} {sp : Sp} {E : XK} {tk : TA} {perm : List Nat} (F : FnOk X.prog X.w X.K X.mg X.base CX k f fd ps sp) (hr : Room k X.A) (hg : Gl X x) (hm : X.mg x = some (.ref f)) (hk : PySem.W.keepIn X.K (.ref f) = true)
    (hb : ∀ (s : Shared) (ws : List Value), (pick perm ws).length = ps.length → BindsTo s fd ⟨[], ks.zip ws⟩ (ps.zip (pick perm ws))) (hx : Passes CX X E)
    (hkw : PK X kws tk) (hall : (backToKw pos (keywordEach kws X.env)).all (·.1.isSome) = true := by rfl) (hks : (backToKw pos (keywordEach kws X.env)).filterMap (·.1) = ks := by rfl)
    (hdb : (x == ("__debug__" : Str)) = false := by decide)
    (hpl : ((backTo pos (starEach [] X.env)).any (·.1) || (backToKw pos (keywordEach kws X.env)).any (·.1.isNone)) = false := by rfl) :
    PE X (.Call (.Name x p) [] kws pos) (fun σ H Q => tk σ H fun zs H2 => sp (pick perm zs) H2 Q E) := by
  refine ⟨fun pins s σ H Q I h => ?_⟩
  refine wpAny_Call_Name_kw (ld_glob I hg hm ?_ hdb)
  refine PySem.W.callWith_KW0 (h₀ := X.base) I.ok.mod.kin hk hall (thn (hkw.run pos pins s σ H _ I h) fun ws s2 ⟨zs, H2, I2, rz, q2⟩ => ⟨I2.kIn, ?_⟩) hpl
  rw [hks]
  exact run_fnk0 F hr hb hx I2 rz q2
theorem z_calK {ks : List Str} {perm : List Nat} (C : CalK X.prog X.w X.K X.mg X.base TB k x n ks perm sp) (hr : Room k X.A) (hg : Gl X x) (hkw : ZPK TB X kws ts) (hall : (backToKw pos (keywordEach kws X.env)).all (·.1.isSome) = true := by rfl) (hks : (backToKw pos (keywordEach kws X.env)).filterMap (·.1) = ks := by rfl)
    (hdb : (x == ("__debug__" : Str)) = false := by decide)
    (hpl : ((backTo pos (starEach [] X.env)).any (·.1) || (backToKw pos (keywordEach kws X.env)).any (·.1.isNone)) = false := by rfl) : ZPE TB X (.Call (.Name x p) [] kws pos) (zCallK n perm sp ts) := by
  obtain ⟨f, fd, ps, rfl, F, hm, hk, hb⟩ := C.ex
  exact ⟨(pe_callK0 F hr hg hm hk hb pass0 hkw.pk hall hks hdb hpl).conv fun σ H Q ⟨L, S, A, Kc, s, l, h, hQ⟩ => ⟨L, S, A, _, s, l, h, fun vs H1 ⟨A1, S1, ws, ea1, eh1, s1, r1, h0⟩ => let ⟨hl, h1⟩ := qAr_ex h0
    ⟨by rw [← (r1.pick perm).length]; exact hl, A1, S1, pick perm ws, Kc, s1, r1.pick perm, h1, fun v H' q => hQ v H' (q.on ea1 eh1)⟩⟩⟩
/-- sorted(xs): ints, any number of them -/
@[irreducible] def qSorted : ZC := fun ws S K => Bx (match ws with
  | [.ref n] => ∃ ns : List Int, IsLst S n (ns.map W.int) ∧ ∀ ns' : List Int, ns'.Perm ns → ns'.Pairwise (· ≤ ·) → K (.ref S.length) (S ++ [.lst (ns'.map W.int)])
  | _ => False)
theorem reps_ints {K : PySem.W.Frag} {A : List Addr} {H : Hp} : ∀ ns : List Int, Reps K A H (ns.map W.int) (ns.map V.int)
  | [] => .nil
  | n :: ns => .cons (.int n) (reps_ints ns)
theorem zc_sorted {k : Nat} (hr : Room k X.A) (hc : X.calm = true) : ZOC TB X (.builtin "sorted") qSorted := by
  refine ⟨fun pins s σ H xs us Q I rv h => ?_⟩
  obtain ⟨A, S, ws, Kc, sk, r, h, hQ⟩ := h
  unfold qSorted at h
  replace h := h.ok
  split at h
  · obtain ⟨ns, e1, k⟩ := h
    cases r with
    | cons r1 r =>
      cases r1 with
      | ref h1 =>
        cases r
        obtain ⟨vs, hq, q1⟩ := sk.seq h1 e1
        have e := q1.ints
        subst e
        exact cr_sortedI pins s σ H _ us Q I rv ⟨_, ns, rfl, hq, fun ns' p hp hs hn => hQ _ _ (.lst sk (reps_ints ns') hn (k ns' hp hs))⟩
  · exact h.elim
end
end Z

set_option maxHeartbeats 2000000
/-! Z9: working with the readings: the store's extension, rules for simp. -/
namespace Z
open PySem PySem.Spec PyProof.Rows L2
/-- all cells but those of ms stay as they were -/
def Keep (ms : List Nat) (S S' : Store) : Prop := ∀ n o, n ∉ ms → S[n]? = some o → S'[n]? = some o
abbrev Ext (S S' : Store) : Prop := Keep [] S S'
theorem Keep.refl (ms : List Nat) (S : Store) : Keep ms S S := fun _ _ _ h => h
theorem Keep.trans {ms : List Nat} {S S1 S2 : Store} (a : Keep ms S S1) (b : Keep ms S1 S2) : Keep ms S S2 := fun n o h e => b n o h (a n o h e)
theorem Keep.mono {ms ms' : List Nat} {S S1 : Store} (a : Keep ms S S1) (h : ∀ n ∈ ms, n ∈ ms') : Keep ms' S S1 := fun n o hn e => a n o (fun z => hn (h n z)) e
theorem Ext.keep {ms : List Nat} {S S1 : Store} (a : Ext S S1) : Keep ms S S1 := fun n o _ e => a n o (by simp) e
theorem Ext.get {S S1 : Store} (a : Ext S S1) {n : Nat} {o : O} (e : S[n]? = some o) : S1[n]? = some o := a n o (by simp) e
theorem Keep.app (ms : List Nat) (S T : Store) : Keep ms S (S ++ T) := fun n o _ e => by
  rw [List.getElem?_append_left (List.getElem?_eq_some_iff.mp e).1]; exact e
theorem Keep.set (S : Store) (n : Nat) (o : O) : Keep [n] S (S.set n o) := fun m u hm e => by
  rw [List.getElem?_set_ne (by simp at hm; omega)]; exact e
theorem Keep.lt {ms : List Nat} {S S1 : Store} (a : Keep ms S S1) {n : Nat} (h : n ∉ ms) (hl : n < S.length) : n < S1.length :=
  (List.getElem?_eq_some_iff.mp (a n _ h (List.getElem?_eq_getElem hl))).1
theorem Keep.lst {ms : List Nat} {S S1 : Store} (a : Keep ms S S1) {n : Nat} {xs : List W} (hn : n ∉ ms) (h : IsLst S n xs) : IsLst S1 n xs := isL.mpr ((isL.mp h).elim (fun e => .inl (a n _ hn e)) fun e => .inr (a n _ hn e))
theorem Ext.lst {S S1 : Store} (a : Ext S S1) {n : Nat} {xs : List W} (h : IsLst S n xs) : IsLst S1 n xs := Keep.lst a (by simp) h
theorem getL_of {S : Store} {n : Nat} {xs : List W} (h : S[n]? = some (.lst xs)) : getL S n = some xs := isL.mpr (.inl h)
/-! the store grown by written cells -/
@[simp] theorem app_get (S T : Store) (k : Nat) : (S ++ T)[S.length + k]? = T[k]? := by rw [List.getElem?_append_right (by omega)]; congr 1; omega
@[simp] theorem app_get0 (S T : Store) : (S ++ T)[S.length]? = T[0]? := app_get S T 0
@[simp] theorem app_set (S T : Store) (k : Nat) (o : O) : (S ++ T).set (S.length + k) o = S ++ T.set k o := by rw [List.set_append_right _ _ (by omega)]; congr 2; omega
@[simp] theorem app_set0 (S T : Store) (o : O) : (S ++ T).set S.length o = S ++ T.set 0 o := app_set S T 0 o
theorem getL_get {S T : Store} {n m : Nat} (h : S[n]? = T[m]?) : getL S n = getL T m := by unfold getL; rw [h]
@[simp] theorem getL_app (S T : Store) (k : Nat) : getL (S ++ T) (S.length + k) = getL T k := getL_get (app_get S T k)
@[simp] theorem getL_app0 (S T : Store) : getL (S ++ T) S.length = getL T 0 := getL_get (app_get0 S T)
@[simp] theorem getL_zero (xs : List W) (T : Store) : getL (.lst xs :: T) 0 = some xs := rfl
@[simp] theorem getL_succ (o : O) (T : Store) (k : Nat) : getL (o :: T) (k + 1) = getL T k := rfl
theorem getL_set_ne {S : Store} {n m : Nat} {o : O} (h : n ≠ m) : getL (S.set n o) m = getL S m := getL_get (List.getElem?_set_ne h)
theorem getL_app1 (S : Store) (o : O) (T : Store) (xs : List W) : getL (S ++ o :: .lst xs :: T) (S.length + 1) = some xs := getL_app S _ 1
theorem getL_app00 (S : Store) (T : Store) (xs : List W) : getL (S ++ .lst xs :: T) S.length = some xs := getL_app0 S _
theorem getL_set_self {S : Store} {n : Nat} {xs : List W} (h : n < S.length) : getL (S.set n (.lst xs)) n = some xs := getL_of (List.getElem?_set_self h)
theorem lt_of_get {S : Store} {n : Nat} {o : O} (h : S[n]? = some o) : n < S.length := (List.getElem?_eq_some_iff.mp h).1
theorem app_l {S T : Store} {n : Nat} {o : O} (h : S[n]? = some o) : (S ++ T)[n]? = some o := by rw [List.getElem?_append_left (lt_of_get h)]; exact h
theorem getL_app_l {S T : Store} {n : Nat} {xs : List W} (h : getL S n = some xs) : getL (S ++ T) n = some xs := by
  rcases isL.mp h with e | e
  · exact isL.mpr (.inl (app_l e))
  · exact isL.mpr (.inr (app_l e))
theorem set_ne' {S : Store} {n m : Nat} {o u : O} (h : n ≠ m) (e : S[m]? = some u) : (S.set n o)[m]? = some u := by rw [List.getElem?_set_ne h]; exact e
theorem getL_set_ne' {S : Store} {n m : Nat} {o : O} {xs : List W} (h : n ≠ m) (e : getL S m = some xs) : getL (S.set n o) m = some xs := by rw [getL_set_ne h]; exact e
theorem Keep.app_r {ms : List Nat} {S S1 T : Store} (h : Keep ms S S1) : Keep ms S (S1 ++ T) := h.trans (Keep.app _ _ _)
theorem Keep.set_in {ms : List Nat} {S S1 : Store} {n : Nat} {o : O} (hn : n ∈ ms) (h : Keep ms S S1) : Keep ms S (S1.set n o) := fun m u hm e => by
  rw [List.getElem?_set_ne (fun z : n = m => hm (by rw [← z]; exact hn))]; exact h m u hm e
theorem Keep.set_new {ms : List Nat} {S S1 : Store} {n : Nat} {o : O} (hn : S.length ≤ n) (h : Keep ms S S1) : Keep ms S (S1.set n o) := fun m u hm e => by
  have := lt_of_get e
  rw [List.getElem?_set_ne (by omega)]; exact h m u hm e
theorem Keep.len {ms : List Nat} {S S1 : Store} (h : Keep ms S S1) (hm : ∀ m ∈ ms, m < S1.length) : S.length ≤ S1.length := by
  by_cases h0 : S.length = 0
  · omega
  · by_cases hi : S.length - 1 ∈ ms
    · have := hm _ hi; omega
    · have := h.lt hi (by omega); omega
theorem cut_to {α : Type} (xs : List α) (k : Nat) : cut xs none (some (k : Int)) = xs.take k := by
  unfold cut
  rw [HT.sIx_none, HT.sIx_nat, List.drop_zero, Nat.sub_zero, List.take_eq_take_iff]
  omega
theorem cut_from {α : Type} (xs : List α) (k : Nat) : cut xs (some (k : Int)) none = xs.drop k := by
  unfold cut
  rw [HT.sIx_none, HT.sIx_nat]
  by_cases h : k ≤ xs.length
  · rw [Nat.min_eq_left h, List.take_of_length_le (by rw [List.length_drop]; omega)]
  · rw [Nat.min_eq_right (by omega), Nat.sub_self, List.take_zero, List.drop_eq_nil_of_le (by omega)]
theorem cut_m1 {α : Type} (xs : List α) : cut xs none (some (-1)) = xs.dropLast := by
  unfold cut
  rw [HT.sIx_none, List.drop_zero, Nat.sub_zero, List.dropLast_eq_take]
  congr 1
  unfold HT.sIx
  simp
  omega
/-! subscripts by written numbers -/
theorem atI_cast {α : Type} (xs : List α) (k : Nat) : atI xs (k : Int) = xs[k]? := by
  unfold atI ixN
  rw [if_pos (by omega)]
  by_cases h : k < xs.length
  · rw [if_pos (by omega)]; simp
  · rw [if_neg (by omega), List.getElem?_eq_none (by omega)]; rfl
@[simp] theorem atI_lit {α : Type} (xs : List α) (k : Nat) : atI xs (no_index (OfNat.ofNat k : Int)) = xs[k]? := atI_cast xs k
theorem atI_neg {α : Type} (xs : List α) (k : Nat) (h : k < xs.length) : atI xs (-((k : Int) + 1)) = xs[xs.length - 1 - k]? := by
  unfold atI ixN
  rw [if_neg (by omega), if_pos (by omega)]
  show xs[_]? = _
  congr 1
  omega
theorem atI_m1 {α : Type} (xs : List α) : atI xs (-1) = xs.getLast? := by
  cases xs with
  | nil => rfl
  | cons x xs =>
    have := atI_neg (x :: xs) 0 (by simp)
    rw [List.getLast?_eq_getElem?]
    exact this
theorem atI_ints {ns : List Int} {p : Int} (h0 : 0 ≤ p) (h1 : p < ns.length) : atI (ns.map W.int) p = some (.int (ns.getD p.toNat 0)) := by
  obtain ⟨k, rfl⟩ : ∃ k : Nat, p = (k : Int) := ⟨p.toNat, by omega⟩
  have h2 : k < ns.length := by omega
  rw [atI_cast, List.getElem?_map, List.getElem?_eq_getElem h2]
  simp [h2]
@[simp] theorem ixN_lit (n : Nat) (k : Nat) : ixN n (no_index (OfNat.ofNat k : Int)) = if k < n then some k else none := by
  show ixN n (k : Int) = _
  unfold ixN
  rw [if_pos (by omega)]
  by_cases h : k < n
  · rw [if_pos (by omega), if_pos h]; simp
  · rw [if_neg (by omega), if_neg h]
/-! == -/
theorem qEq_scal {neg : Bool} {x y : W} {d e : PyData} {b : Bool} {S : Store} {K : WK} (h1 : DataOf S x d) (h2 : DataOf S y e) (s1 : SeqAt.shaped d = true) (s2 : SeqAt.shaped e = true) (q : PyData.eqv d e = b) (h : K (.bl (neg ^^ b)) S) : qEq neg x y S K := by
  unfold qEq
  refine ⟨?_⟩
  exact ⟨d, e, h1, h2, s1, s2, by rw [q]; exact h⟩
/-! numbers -/
theorem MulOk.r {i j : Int} (h1 : -18446744073709551616 < j) (h2 : j < 18446744073709551616) : MulOk i j := .inr (.inl ⟨h1, h2⟩)
theorem MulOk.l {i j : Int} (h1 : -18446744073709551616 < i) (h2 : i < 18446744073709551616) : MulOk i j := .inl ⟨h1, h2⟩
theorem DivOk.small {i j : Int} (h1 : 0 < j) (h2 : j < 18446744073709551616) : DivOk i j := by
  refine ⟨h1, ?_⟩
  have h3 : j.natAbs < 2 ^ 64 := by omega
  have : j.natAbs.log2 < 64 := (Nat.log2_lt (by omega)).mpr h3
  omega


theorem DivOk.any {i j k : Int} (h : DivOk k j) : DivOk i j := h
theorem PowOk.lit {i j : Int} (h1 : 0 ≤ j) (h2 : j ≤ 1000000) (h3 : i.natAbs < 2 ^ 64) : PowOk i j := ⟨h1, h2, h3⟩
/-- the turn's own names forgotten -/
def qWipe (L : Loc') : List Nat → (Loc' → Prop) → Prop
  | [], k => k L
  | v :: vs, k => qWipe L vs fun L' => qLet v none L' k
theorem qWipe_eq {L : Loc'} {vs : List Nat} : ∀ {k : Loc' → Prop}, qWipe L vs k ↔ k (wipeL L vs) := by
  induction vs with
  | nil => intro k; exact Iff.rfl
  | cons v vs ih => intro k; exact ih.trans qLet_iff
/-! step by step: the readings that are not reckoned out by whnf -/
section
variable {L : Loc'} {S T : Store} {D : ZEnds} {K : WK} {tt : ZT} {ta : ZE} {g : ZTG} {w x y : W} {ws xs ys : List W} {i j : Int} {n m k : Nat} {A B : Prop} {b : Bool} {o : O}
theorem s_sz (h : k ≤ 16777216) : k ≤ sizeLine := by rw [sizeLine_eq]; exact h
theorem s_szl (h : k < 16777216) : k < sizeLine := by rw [sizeLine_eq]; exact h
theorem i_t (e : b = true) (h : A) : qIf b A B := by subst e; rw [qIf_t]; exact h
theorem i_f (e : b = false) (h : B) : qIf b A B := by subst e; rw [qIf_f]; exact h
theorem i_b (h1 : b = true → A) (h2 : b = false → B) : qIf b A B := by
  cases b
  · rw [qIf_f]; exact h2 rfl
  · rw [qIf_t]; exact h1 rfl
theorem i_d {p : Prop} {dp : Decidable p} (h1 : p → A) (h2 : ¬ p → B) : qIf (decide p) A B := i_b (fun h => h1 (of_decide_eq_true h)) fun h => h2 (of_decide_eq_false h)
theorem i_n {p : Prop} {dp : Decidable p} (h1 : ¬ p → A) (h2 : p → B) : qIf (!decide p) A B := i_b (fun h => h1 (of_decide_eq_false (by simpa using h))) fun h => h2 (by simpa using h)
theorem i_dt {p : Prop} {dp : Decidable p} (hp : p) (h : A) : qIf (decide p) A B := i_t (decide_eq_true hp) h
theorem i_df {p : Prop} {dp : Decidable p} (hp : ¬ p) (h : B) : qIf (decide p) A B := i_f (decide_eq_false hp) h
theorem i_nt {p : Prop} {dp : Decidable p} (hp : ¬ p) (h : A) : qIf (!decide p) A B := i_t (by simp [hp]) h
theorem i_nf {p : Prop} {dp : Decidable p} (hp : p) (h : B) : qIf (!decide p) A B := i_f (by simp [hp]) h
theorem shaped_str {s : Str} (h : PyData.strOk s = true) : SeqAt.shaped (.str s) = true := by
  unfold SeqAt.shaped
  rw [PyData.canLay0, h]
  rfl
theorem q_eq_str {s t : Str} (hs : PyData.strOk s = true) (ht : PyData.strOk t = true) (h : K (.bl (decide (s = t))) S) : qEq false (.str s) (.str t) S K := qEq_scal (.str s) (.str t) (shaped_str hs) (shaped_str ht) (by rw [PyData.eqv, Bool.beq_eq_decide_eq]) (by rw [Bool.false_xor]; exact h)
theorem q_ne_str {s t : Str} (hs : PyData.strOk s = true) (ht : PyData.strOk t = true) (h : K (.bl (!decide (s = t))) S) : qEq true (.str s) (.str t) S K := qEq_scal (.str s) (.str t) (shaped_str hs) (shaped_str ht) (by rw [PyData.eqv, Bool.beq_eq_decide_eq]) (by rw [Bool.true_xor]; exact h)
/-! operators -/
theorem q_eq_int (h : K (.bl (decide (i = j))) S) : qEq false (.int i) (.int j) S K := qEq_scal (.int i) (.int j) rfl rfl (by rw [PyData.eqv, Bool.beq_eq_decide_eq]) (by rw [Bool.false_xor]; exact h)
theorem q_ne_int (h : K (.bl (!decide (i = j))) S) : qEq true (.int i) (.int j) S K := qEq_scal (.int i) (.int j) rfl rfl (by rw [PyData.eqv, Bool.beq_eq_decide_eq]) (by rw [Bool.true_xor]; exact h)
theorem q_eq_bl {b c : Bool} (h : K (.bl (decide (b = c))) S) : qEq false (.bl b) (.bl c) S K := qEq_scal (.bl b) (.bl c) rfl rfl (by rw [PyData.eqv, Bool.beq_eq_decide_eq]) (by rw [Bool.false_xor]; exact h)
theorem q_ne_bl {b c : Bool} (h : K (.bl (!decide (b = c))) S) : qEq true (.bl b) (.bl c) S K := qEq_scal (.bl b) (.bl c) rfl rfl (by rw [PyData.eqv, Bool.beq_eq_decide_eq]) (by rw [Bool.true_xor]; exact h)
theorem q_is_non (h : K (.bl (isNon x)) S) : qIsN false x .non S K := by unfold qIsN; exact ⟨⟨rfl, by rw [Bool.false_xor]; exact h⟩⟩
theorem q_isnot_non (h : K (.bl (!isNon x)) S) : qIsN true x .non S K := by unfold qIsN; exact ⟨⟨rfl, by rw [Bool.true_xor]; exact h⟩⟩
theorem q_ix_tup (e : atI xs i = some w) (h : K w S) : qIx (.tup xs) (.int i) S K := by unfold qIx; exact ⟨⟨w, e, h⟩⟩
theorem q_ix_ref (e : IsLst S n xs) (e2 : atI xs i = some w) (h : K w S) : qIx (.ref n) (.int i) S K := by unfold qIx; exact ⟨⟨xs, e, w, e2, h⟩⟩
theorem q_len_tup (h : K (.int xs.length) S) : qLen [.tup xs] S K := by unfold qLen; exact ⟨h⟩
theorem q_len_ref (e : IsLst S n xs) (h : K (.int xs.length) S) : qLen [.ref n] S K := by unfold qLen; exact ⟨⟨xs, e, h⟩⟩
theorem q_tup_tup (h : K (.tup xs) S) : qTup [.tup xs] S K := by unfold qTup; exact ⟨h⟩
theorem q_tup_ref (e : IsLst S n xs) (h : K (.tup xs) S) : qTup [.ref n] S K := by unfold qTup; exact ⟨⟨xs, e, h⟩⟩
theorem q_list_tup (h : K (.ref S.length) (S ++ [.lst xs])) : qList [.tup xs] S K := by unfold qList; exact ⟨h⟩
theorem q_list_ref (e : IsLst S n xs) (h : K (.ref S.length) (S ++ [.lst xs])) : qList [.ref n] S K := by unfold qList; exact ⟨⟨xs, e, h⟩⟩
theorem q_isi {U nm : String} (e1 : x.tyName S = some nm) (e2 : kitB nm U = some b) (h : K (.bl b) S) : qIsi [x, .ty U] S K := by unfold qIsi; exact ⟨⟨nm, b, e1, e2, h⟩⟩
theorem q_sl_tup {lo hi : Option Int} (h : K (.tup (cut xs lo hi)) S) : qSl (.tup xs) lo hi S K := by unfold qSl; exact ⟨h⟩
theorem q_sl_ref {lo hi : Option Int} (e : IsLst S n xs) (h : K (.ref S.length) (S ++ [.lst (cut xs lo hi)])) : qSl (.ref n) lo hi S K := by unfold qSl; exact ⟨⟨xs, e, h⟩⟩
theorem q_sl_tupE {lo hi : Option Int} (e : cut xs lo hi = ys) (h : K (.tup ys) S) : qSl (.tup xs) lo hi S K := q_sl_tup (by rw [e]; exact h)
theorem q_sl_refE {lo hi : Option Int} (e : IsLst S n xs) (e2 : cut xs lo hi = ys) (h : K (.ref S.length) (S ++ [.lst ys])) : qSl (.ref n) lo hi S K := q_sl_ref e (by rw [e2]; exact h)
theorem s_isml (e : IsLst S n xs) (h : A) : onLst (.ref n) S A := ⟨⟨n, xs, rfl, e⟩, h⟩
theorem q_append (e : S[n]? = some (.lst xs)) (hz : xs.length < sizeLine) (h : K .non (S.set n (.lst (xs ++ [w])))) : qAppend (.ref n) [w] S K := by unfold qAppend; exact ⟨⟨xs, e, hz, h⟩⟩
theorem q_append2 (hl : n < S.length) (hz : xs.length < sizeLine) (h : K .non (S.set n (.lst (xs ++ [w])))) : qAppend (.ref n) [w] (S.set n (.lst xs)) K := q_append (List.getElem?_set_self hl) hz (by rw [List.set_set]; exact h)
theorem q_append0 (hz : xs.length < sizeLine) (h : K .non (S ++ .lst (xs ++ [w]) :: T)) : qAppend (.ref S.length) [w] (S ++ .lst xs :: T) K := q_append (by rw [app_get0]; rfl) hz (by rw [app_set0]; exact h)
theorem q_append1 (hz : xs.length < sizeLine) (h : K .non (S ++ o :: .lst (xs ++ [w]) :: T)) : qAppend (.ref (S.length + 1)) [w] (S ++ o :: .lst xs :: T) K := q_append (by rw [app_get]; rfl) hz (by rw [app_set]; exact h)
theorem q_cat (e1 : S[n]? = some (.lst xs)) (e2 : S[m]? = some (.lst ys)) (hz : xs.length + ys.length ≤ sizeLine) (h : K (.ref S.length) (S ++ [.lst (xs ++ ys)])) : qCat n m S K := by unfold qCat; exact ⟨⟨xs, ys, e1, e2, hz, h⟩⟩
theorem q_pop0 {x : W} (e : S[n]? = some (.lst (x :: xs))) (h : K x (S.set n (.lst xs))) : qPop (.ref n) [.int 0] S K := by
  unfold qPop
  exact ⟨⟨x :: xs, 0, x, e, by decide, by decide, by unfold seqIndex?; simp, rfl, h⟩⟩
theorem q_pop (e : S[n]? = some (.lst xs)) (e2 : xs.getLast? = some x) (h : K x (S.set n (.lst xs.dropLast))) : qPop (.ref n) [] S K := by
  unfold qPop
  exact ⟨⟨xs, x, e, by rw [← List.getLast?_eq_getElem?]; exact e2, h⟩⟩
theorem q_popi (e : S[n]? = some (.lst xs)) (e2 : xs[k]? = some x) (hz : xs.length < 9223372036854775808) (h : K x (S.set n (.lst (xs.eraseIdx k)))) : qPop (.ref n) [.int (k : Nat)] S K := by
  have hk := (List.getElem?_eq_some_iff.mp e2).1
  unfold qPop
  refine ⟨⟨xs, k, x, e, by omega, by omega, ?_, e2, h⟩⟩
  unfold seqIndex?
  simp
  omega
theorem q_setL {KS : Store → Prop} (e : S[n]? = some (.lst xs)) (e2 : ixN xs.length i = some m) (h : KS (S.set n (.lst (xs.set m w)))) : qSetL (.ref n) (.int i) w S KS := by unfold qSetL; exact ⟨⟨xs, m, e, e2, h⟩⟩
theorem q_setL2 {KS : Store → Prop} (hl : n < S.length) (e2 : ixN xs.length i = some m) (h : KS (S.set n (.lst (xs.set m w)))) : qSetL (.ref n) (.int i) w (S.set n (.lst xs)) KS := q_setL (List.getElem?_set_self hl) e2 (by rw [List.set_set]; exact h)
theorem s_seqI_tup {KI : ZIt → Store → Prop} (h : KI ⟨xs, fun _ => True⟩ S) : qSeqI KI (.tup xs) S := by unfold qSeqI; exact ⟨.inl ⟨xs, rfl, h⟩⟩
theorem s_seqI_ref {KI : ZIt → Store → Prop} (e : IsLst S n xs) (h : KI ⟨xs, fun S' => IsLst S' n xs⟩ S) : qSeqI KI (.ref n) S := by unfold qSeqI; exact ⟨.inr ⟨n, xs, rfl, e, h⟩⟩
/-- a for by its invariant -/
theorem forI {its : List W} {G : Store → Prop} {tb : ZS} (P : Nat → Loc' → Store → Prop) (h0 : P 0 L S) (hG : ∀ i L S, P i L S → G S)
    (turn : ∀ (i : Nat) (w : W) (L : Loc') (S : Store), its[i]? = some w → P i L S → g w L S fun L' S' => tb ⟨P (i + 1), D.rt, D.nx, P (i + 1)⟩ L' S') (done : ∀ L S, P its.length L S → D.nx L S) : FlEnd ⟨its, G⟩ g tb D L S := by
  unfold FlEnd
  refine ⟨?_⟩
  exact ⟨P, h0, fun i w L S e p => ⟨hG i L S p, turn i w L S e p⟩, fun L S p => ⟨hG _ L S p, done L S p⟩⟩
/-- a while by its invariant and a number that falls -/
theorem whI {c : ZT} {tb : ZS} (P : Nat → Loc' → Store → Prop) (m0 : Nat) (h0 : P m0 L S) (turn : ∀ m L S, P m L S → c L S fun b S1 => qIf b (tb ⟨fun L' S' => ∃ m', m' < m ∧ P m' L' S', D.rt, D.nx, fun L' S' => ∃ m', m' < m ∧ P m' L' S'⟩ L S1) (D.nx L S1)) : WhEnd c tb D L S := by
  unfold WhEnd
  refine ⟨?_⟩
  exact ⟨P, ⟨m0, h0⟩, turn⟩
end
section
variable {L : Loc'} {S1 : Store} {K : WK} {te : ZE} {tt : ZT} {g : ZTG} {vs : List Nat} {its : List W} {G : Store → Prop}
/-- by what holds of the list made so far and of the store: ms the cells that a turn may change -/
theorem lcI (ms : List Nat) (I : Store → Prop) (Gd : Nat → List W → Prop) (hD : S1.length ∉ ms) (hm : ∀ m ∈ ms, m < S1.length) (hI : ∀ S o, I S → S1.length < S.length → I (S.set S1.length o)) (hI0 : I (S1 ++ [.lst []]))
    (hG : ∀ S, Keep ms S1 S → G S) (h0 : Gd 0 []) (hsz : ∀ i acc, i < its.length → Gd i acc → acc.length < sizeLine)
    (turn : ∀ (i : Nat) (acc : List W) (w : W) (S2 : Store) (Kt : WK) (Kf : Store → Prop), its[i]? = some w → Gd i acc → I S2 → Keep ms S1 S2 → S1.length < S2.length →
      (∀ y S5, Keep ms S2 S5 → I S5 → Gd (i + 1) (acc ++ [y]) → Kt y S5) → (∀ S4, Keep ms S2 S4 → I S4 → Gd (i + 1) acc → Kf S4) →
      qWipe L vs fun L0 => g w L0 S2 fun L' S3 => tt L' S3 fun b S4 => qIf b (te L' S4 Kt) (Kf S4))
    (done : ∀ acc S2, Gd its.length acc → I S2 → Keep ms S1 S2 → S2[S1.length]? = some (.lst acc) → K (.ref S1.length) S2) : LcEnd ⟨its, G⟩ g tt te vs L S1 K := by
  unfold LcEnd
  refine ⟨?_⟩
  refine ⟨fun i acc S2 => Gd i acc ∧ I S2 ∧ Keep ms S1 S2 ∧ S2[S1.length]? = some (.lst acc), ⟨h0, hI0, Keep.app _ _ _, by simp⟩, fun i acc w S2 hw ⟨a, b, c, d⟩ => ?_, fun acc S2 ⟨a, b, c, d⟩ => ⟨hG S2 c, done acc S2 a b c d⟩⟩
  have hlt : S1.length < S2.length := lt_of_get d
  have hil := (List.getElem?_eq_some_iff.mp hw).1
  refine ⟨hG S2 c, d, qWipe_eq.mp (turn i acc w S2 _ _ hw a b c hlt (fun y S5 k1 k2 k3 => ?_) fun S4 k1 k2 k3 => ?_)⟩
  · have d5 := k1 _ _ hD d
    unfold qPush
    refine ⟨d5, hsz i acc hil a, k3, hI _ _ k2 (lt_of_get d5), fun n o hn e => ?_, List.getElem?_set_self (lt_of_get d5)⟩
    have hne : S1.length ≠ n := Nat.ne_of_gt (lt_of_get e)
    rw [List.getElem?_set_ne hne]
    exact (c.trans k1) n o hn e
  · exact ⟨k3, k2, c.trans k1, k1 _ _ hD d⟩
/-- a pure element, no test: f of each item -/
theorem lcM (f : Nat → W → W) (hG : ∀ S, Ext S1 S → G S) (hsz : its.length ≤ sizeLine)
    (turn : ∀ (i : Nat) (w : W) (S2 : Store) (Kt : WK) (Kf : Store → Prop), its[i]? = some w → Ext S1 S2 → (∀ S5, Ext S2 S5 → Kt (f i w) S5) → qWipe L vs fun L0 => g w L0 S2 fun L' S3 => tt L' S3 fun b S4 => qIf b (te L' S4 Kt) (Kf S4))
    (done : ∀ S2, Ext S1 S2 → S2[S1.length]? = some (.lst (its.mapIdx f)) → K (.ref S1.length) S2) : LcEnd ⟨its, G⟩ g tt te vs L S1 K := by
  refine lcI [] (fun _ => True) (fun i acc => acc = (its.take i).mapIdx f) (by simp) (by simp) (fun _ _ _ _ => trivial) trivial hG rfl (fun i acc hi e => ?_) (fun i acc w S2 Kt Kf hw e _ k _ hK _ => turn i w S2 Kt Kf hw k fun S5 k5 => hK _ _ k5 trivial ?_) fun acc S2 e _ k hS => done S2 k ?_
  · subst e
    rw [List.length_mapIdx, List.length_take]
    omega
  · subst e
    have hi := (List.getElem?_eq_some_iff.mp hw).1
    rw [List.take_add_one, hw, Option.toList_some, List.mapIdx_append, List.length_take, Nat.min_eq_left (by omega)]
    simp
  · subst e
    rw [List.take_length] at hS
    exact hS
/-- a pure element with a test: f of each item, none where the test refuses -/
theorem lcF (f : W → Option W) (hG : ∀ S, Ext S1 S → G S) (hsz : its.length ≤ sizeLine)
    (turn : ∀ (i : Nat) (w : W) (S2 : Store) (Kt : WK) (Kf : Store → Prop), its[i]? = some w → Ext S1 S2 → (∀ y S5, f w = some y → Ext S2 S5 → Kt y S5) → (∀ S4, f w = none → Ext S2 S4 → Kf S4) → qWipe L vs fun L0 => g w L0 S2 fun L' S3 => tt L' S3 fun b S4 => qIf b (te L' S4 Kt) (Kf S4))
    (done : ∀ S2, Ext S1 S2 → S2[S1.length]? = some (.lst (its.filterMap f)) → K (.ref S1.length) S2) : LcEnd ⟨its, G⟩ g tt te vs L S1 K := by
  refine lcI [] (fun _ => True) (fun i acc => acc = (its.take i).filterMap f) (by simp) (by simp) (fun _ _ _ _ => trivial) trivial hG rfl (fun i acc hi e => ?_) (fun i acc w S2 Kt Kf hw e _ k _ hK hK' => turn i w S2 Kt Kf hw k (fun y S5 ey k5 => hK _ _ k5 trivial ?_) fun S4 ey k4 => hK' _ k4 trivial ?_) fun acc S2 e _ k hS => done S2 k ?_
  · subst e
    have := List.length_filterMap_le f (its.take i)
    rw [List.length_take] at this
    omega
  · subst e
    rw [List.take_add_one, hw, Option.toList_some, List.filterMap_append, List.filterMap_cons_some ey, List.filterMap_nil]
  · subst e
    rw [List.take_add_one, hw, Option.toList_some, List.filterMap_append, List.filterMap_cons_none ey, List.filterMap_nil, List.append_nil]
  · subst e
    rw [List.take_length] at hS
    exact hS
end
/-! a local is written: by its place -/
section
variable {a0 a1 a2 a3 a4 a5 a6 a7 a8 a9 a10 a11 a12 a13 a14 a15 a16 a17 a18 a19 a20 a21 a22 a23 a24 a25 a26 a27 a28 a29 a30 a31 a32 a33 a34 a35 a36 a37 a38 a39 x9 w9 : Option W} {L9 : Loc'} {k9 : Loc' → Prop}
theorem q_let0 (h : k9 (w9 :: L9)) : qLet 0 w9 (x9 :: L9) k9 := qLet_iff.mpr h
theorem q_let1 (h : k9 (a0 :: w9 :: L9)) : qLet 1 w9 (a0 :: x9 :: L9) k9 := qLet_iff.mpr h
theorem q_let2 (h : k9 (a0 :: a1 :: w9 :: L9)) : qLet 2 w9 (a0 :: a1 :: x9 :: L9) k9 := qLet_iff.mpr h
theorem q_let3 (h : k9 (a0 :: a1 :: a2 :: w9 :: L9)) : qLet 3 w9 (a0 :: a1 :: a2 :: x9 :: L9) k9 := qLet_iff.mpr h
theorem q_let4 (h : k9 (a0 :: a1 :: a2 :: a3 :: w9 :: L9)) : qLet 4 w9 (a0 :: a1 :: a2 :: a3 :: x9 :: L9) k9 := qLet_iff.mpr h
theorem q_let5 (h : k9 (a0 :: a1 :: a2 :: a3 :: a4 :: w9 :: L9)) : qLet 5 w9 (a0 :: a1 :: a2 :: a3 :: a4 :: x9 :: L9) k9 := qLet_iff.mpr h
theorem q_let6 (h : k9 (a0 :: a1 :: a2 :: a3 :: a4 :: a5 :: w9 :: L9)) : qLet 6 w9 (a0 :: a1 :: a2 :: a3 :: a4 :: a5 :: x9 :: L9) k9 := qLet_iff.mpr h
theorem q_let7 (h : k9 (a0 :: a1 :: a2 :: a3 :: a4 :: a5 :: a6 :: w9 :: L9)) : qLet 7 w9 (a0 :: a1 :: a2 :: a3 :: a4 :: a5 :: a6 :: x9 :: L9) k9 := qLet_iff.mpr h
theorem q_let8 (h : k9 (a0 :: a1 :: a2 :: a3 :: a4 :: a5 :: a6 :: a7 :: w9 :: L9)) : qLet 8 w9 (a0 :: a1 :: a2 :: a3 :: a4 :: a5 :: a6 :: a7 :: x9 :: L9) k9 := qLet_iff.mpr h
theorem q_let9 (h : k9 (a0 :: a1 :: a2 :: a3 :: a4 :: a5 :: a6 :: a7 :: a8 :: w9 :: L9)) : qLet 9 w9 (a0 :: a1 :: a2 :: a3 :: a4 :: a5 :: a6 :: a7 :: a8 :: x9 :: L9) k9 := qLet_iff.mpr h
theorem q_let10 (h : k9 (a0 :: a1 :: a2 :: a3 :: a4 :: a5 :: a6 :: a7 :: a8 :: a9 :: w9 :: L9)) : qLet 10 w9 (a0 :: a1 :: a2 :: a3 :: a4 :: a5 :: a6 :: a7 :: a8 :: a9 :: x9 :: L9) k9 := qLet_iff.mpr h
theorem q_let11 (h : k9 (a0 :: a1 :: a2 :: a3 :: a4 :: a5 :: a6 :: a7 :: a8 :: a9 :: a10 :: w9 :: L9)) : qLet 11 w9 (a0 :: a1 :: a2 :: a3 :: a4 :: a5 :: a6 :: a7 :: a8 :: a9 :: a10 :: x9 :: L9) k9 := qLet_iff.mpr h
theorem q_let12 (h : k9 (a0 :: a1 :: a2 :: a3 :: a4 :: a5 :: a6 :: a7 :: a8 :: a9 :: a10 :: a11 :: w9 :: L9)) : qLet 12 w9 (a0 :: a1 :: a2 :: a3 :: a4 :: a5 :: a6 :: a7 :: a8 :: a9 :: a10 :: a11 :: x9 :: L9) k9 := qLet_iff.mpr h
theorem q_let13 (h : k9 (a0 :: a1 :: a2 :: a3 :: a4 :: a5 :: a6 :: a7 :: a8 :: a9 :: a10 :: a11 :: a12 :: w9 :: L9)) : qLet 13 w9 (a0 :: a1 :: a2 :: a3 :: a4 :: a5 :: a6 :: a7 :: a8 :: a9 :: a10 :: a11 :: a12 :: x9 :: L9) k9 := qLet_iff.mpr h
theorem q_let14 (h : k9 (a0 :: a1 :: a2 :: a3 :: a4 :: a5 :: a6 :: a7 :: a8 :: a9 :: a10 :: a11 :: a12 :: a13 :: w9 :: L9)) : qLet 14 w9 (a0 :: a1 :: a2 :: a3 :: a4 :: a5 :: a6 :: a7 :: a8 :: a9 :: a10 :: a11 :: a12 :: a13 :: x9 :: L9) k9 := qLet_iff.mpr h
theorem q_let15 (h : k9 (a0 :: a1 :: a2 :: a3 :: a4 :: a5 :: a6 :: a7 :: a8 :: a9 :: a10 :: a11 :: a12 :: a13 :: a14 :: w9 :: L9)) : qLet 15 w9 (a0 :: a1 :: a2 :: a3 :: a4 :: a5 :: a6 :: a7 :: a8 :: a9 :: a10 :: a11 :: a12 :: a13 :: a14 :: x9 :: L9) k9 := qLet_iff.mpr h
theorem q_let16 (h : k9 (a0 :: a1 :: a2 :: a3 :: a4 :: a5 :: a6 :: a7 :: a8 :: a9 :: a10 :: a11 :: a12 :: a13 :: a14 :: a15 :: w9 :: L9)) : qLet 16 w9 (a0 :: a1 :: a2 :: a3 :: a4 :: a5 :: a6 :: a7 :: a8 :: a9 :: a10 :: a11 :: a12 :: a13 :: a14 :: a15 :: x9 :: L9) k9 := qLet_iff.mpr h
theorem q_let17 (h : k9 (a0 :: a1 :: a2 :: a3 :: a4 :: a5 :: a6 :: a7 :: a8 :: a9 :: a10 :: a11 :: a12 :: a13 :: a14 :: a15 :: a16 :: w9 :: L9)) : qLet 17 w9 (a0 :: a1 :: a2 :: a3 :: a4 :: a5 :: a6 :: a7 :: a8 :: a9 :: a10 :: a11 :: a12 :: a13 :: a14 :: a15 :: a16 :: x9 :: L9) k9 := qLet_iff.mpr h
theorem q_let18 (h : k9 (a0 :: a1 :: a2 :: a3 :: a4 :: a5 :: a6 :: a7 :: a8 :: a9 :: a10 :: a11 :: a12 :: a13 :: a14 :: a15 :: a16 :: a17 :: w9 :: L9)) : qLet 18 w9 (a0 :: a1 :: a2 :: a3 :: a4 :: a5 :: a6 :: a7 :: a8 :: a9 :: a10 :: a11 :: a12 :: a13 :: a14 :: a15 :: a16 :: a17 :: x9 :: L9) k9 := qLet_iff.mpr h
theorem q_let19 (h : k9 (a0 :: a1 :: a2 :: a3 :: a4 :: a5 :: a6 :: a7 :: a8 :: a9 :: a10 :: a11 :: a12 :: a13 :: a14 :: a15 :: a16 :: a17 :: a18 :: w9 :: L9)) : qLet 19 w9 (a0 :: a1 :: a2 :: a3 :: a4 :: a5 :: a6 :: a7 :: a8 :: a9 :: a10 :: a11 :: a12 :: a13 :: a14 :: a15 :: a16 :: a17 :: a18 :: x9 :: L9) k9 := qLet_iff.mpr h
theorem q_let20 (h : k9 (a0 :: a1 :: a2 :: a3 :: a4 :: a5 :: a6 :: a7 :: a8 :: a9 :: a10 :: a11 :: a12 :: a13 :: a14 :: a15 :: a16 :: a17 :: a18 :: a19 :: w9 :: L9)) : qLet 20 w9 (a0 :: a1 :: a2 :: a3 :: a4 :: a5 :: a6 :: a7 :: a8 :: a9 :: a10 :: a11 :: a12 :: a13 :: a14 :: a15 :: a16 :: a17 :: a18 :: a19 :: x9 :: L9) k9 := qLet_iff.mpr h
theorem q_let21 (h : k9 (a0 :: a1 :: a2 :: a3 :: a4 :: a5 :: a6 :: a7 :: a8 :: a9 :: a10 :: a11 :: a12 :: a13 :: a14 :: a15 :: a16 :: a17 :: a18 :: a19 :: a20 :: w9 :: L9)) : qLet 21 w9 (a0 :: a1 :: a2 :: a3 :: a4 :: a5 :: a6 :: a7 :: a8 :: a9 :: a10 :: a11 :: a12 :: a13 :: a14 :: a15 :: a16 :: a17 :: a18 :: a19 :: a20 :: x9 :: L9) k9 := qLet_iff.mpr h
theorem q_let22 (h : k9 (a0 :: a1 :: a2 :: a3 :: a4 :: a5 :: a6 :: a7 :: a8 :: a9 :: a10 :: a11 :: a12 :: a13 :: a14 :: a15 :: a16 :: a17 :: a18 :: a19 :: a20 :: a21 :: w9 :: L9)) : qLet 22 w9 (a0 :: a1 :: a2 :: a3 :: a4 :: a5 :: a6 :: a7 :: a8 :: a9 :: a10 :: a11 :: a12 :: a13 :: a14 :: a15 :: a16 :: a17 :: a18 :: a19 :: a20 :: a21 :: x9 :: L9) k9 := qLet_iff.mpr h
theorem q_let23 (h : k9 (a0 :: a1 :: a2 :: a3 :: a4 :: a5 :: a6 :: a7 :: a8 :: a9 :: a10 :: a11 :: a12 :: a13 :: a14 :: a15 :: a16 :: a17 :: a18 :: a19 :: a20 :: a21 :: a22 :: w9 :: L9)) : qLet 23 w9 (a0 :: a1 :: a2 :: a3 :: a4 :: a5 :: a6 :: a7 :: a8 :: a9 :: a10 :: a11 :: a12 :: a13 :: a14 :: a15 :: a16 :: a17 :: a18 :: a19 :: a20 :: a21 :: a22 :: x9 :: L9) k9 := qLet_iff.mpr h
theorem q_let24 (h : k9 (a0 :: a1 :: a2 :: a3 :: a4 :: a5 :: a6 :: a7 :: a8 :: a9 :: a10 :: a11 :: a12 :: a13 :: a14 :: a15 :: a16 :: a17 :: a18 :: a19 :: a20 :: a21 :: a22 :: a23 :: w9 :: L9)) : qLet 24 w9 (a0 :: a1 :: a2 :: a3 :: a4 :: a5 :: a6 :: a7 :: a8 :: a9 :: a10 :: a11 :: a12 :: a13 :: a14 :: a15 :: a16 :: a17 :: a18 :: a19 :: a20 :: a21 :: a22 :: a23 :: x9 :: L9) k9 := qLet_iff.mpr h
theorem q_let25 (h : k9 (a0 :: a1 :: a2 :: a3 :: a4 :: a5 :: a6 :: a7 :: a8 :: a9 :: a10 :: a11 :: a12 :: a13 :: a14 :: a15 :: a16 :: a17 :: a18 :: a19 :: a20 :: a21 :: a22 :: a23 :: a24 :: w9 :: L9)) : qLet 25 w9 (a0 :: a1 :: a2 :: a3 :: a4 :: a5 :: a6 :: a7 :: a8 :: a9 :: a10 :: a11 :: a12 :: a13 :: a14 :: a15 :: a16 :: a17 :: a18 :: a19 :: a20 :: a21 :: a22 :: a23 :: a24 :: x9 :: L9) k9 := qLet_iff.mpr h
theorem q_let26 (h : k9 (a0 :: a1 :: a2 :: a3 :: a4 :: a5 :: a6 :: a7 :: a8 :: a9 :: a10 :: a11 :: a12 :: a13 :: a14 :: a15 :: a16 :: a17 :: a18 :: a19 :: a20 :: a21 :: a22 :: a23 :: a24 :: a25 :: w9 :: L9)) : qLet 26 w9 (a0 :: a1 :: a2 :: a3 :: a4 :: a5 :: a6 :: a7 :: a8 :: a9 :: a10 :: a11 :: a12 :: a13 :: a14 :: a15 :: a16 :: a17 :: a18 :: a19 :: a20 :: a21 :: a22 :: a23 :: a24 :: a25 :: x9 :: L9) k9 := qLet_iff.mpr h
theorem q_let27 (h : k9 (a0 :: a1 :: a2 :: a3 :: a4 :: a5 :: a6 :: a7 :: a8 :: a9 :: a10 :: a11 :: a12 :: a13 :: a14 :: a15 :: a16 :: a17 :: a18 :: a19 :: a20 :: a21 :: a22 :: a23 :: a24 :: a25 :: a26 :: w9 :: L9)) : qLet 27 w9 (a0 :: a1 :: a2 :: a3 :: a4 :: a5 :: a6 :: a7 :: a8 :: a9 :: a10 :: a11 :: a12 :: a13 :: a14 :: a15 :: a16 :: a17 :: a18 :: a19 :: a20 :: a21 :: a22 :: a23 :: a24 :: a25 :: a26 :: x9 :: L9) k9 := qLet_iff.mpr h
theorem q_let28 (h : k9 (a0 :: a1 :: a2 :: a3 :: a4 :: a5 :: a6 :: a7 :: a8 :: a9 :: a10 :: a11 :: a12 :: a13 :: a14 :: a15 :: a16 :: a17 :: a18 :: a19 :: a20 :: a21 :: a22 :: a23 :: a24 :: a25 :: a26 :: a27 :: w9 :: L9)) : qLet 28 w9 (a0 :: a1 :: a2 :: a3 :: a4 :: a5 :: a6 :: a7 :: a8 :: a9 :: a10 :: a11 :: a12 :: a13 :: a14 :: a15 :: a16 :: a17 :: a18 :: a19 :: a20 :: a21 :: a22 :: a23 :: a24 :: a25 :: a26 :: a27 :: x9 :: L9) k9 := qLet_iff.mpr h
theorem q_let29 (h : k9 (a0 :: a1 :: a2 :: a3 :: a4 :: a5 :: a6 :: a7 :: a8 :: a9 :: a10 :: a11 :: a12 :: a13 :: a14 :: a15 :: a16 :: a17 :: a18 :: a19 :: a20 :: a21 :: a22 :: a23 :: a24 :: a25 :: a26 :: a27 :: a28 :: w9 :: L9)) : qLet 29 w9 (a0 :: a1 :: a2 :: a3 :: a4 :: a5 :: a6 :: a7 :: a8 :: a9 :: a10 :: a11 :: a12 :: a13 :: a14 :: a15 :: a16 :: a17 :: a18 :: a19 :: a20 :: a21 :: a22 :: a23 :: a24 :: a25 :: a26 :: a27 :: a28 :: x9 :: L9) k9 := qLet_iff.mpr h
theorem q_let30 (h : k9 (a0 :: a1 :: a2 :: a3 :: a4 :: a5 :: a6 :: a7 :: a8 :: a9 :: a10 :: a11 :: a12 :: a13 :: a14 :: a15 :: a16 :: a17 :: a18 :: a19 :: a20 :: a21 :: a22 :: a23 :: a24 :: a25 :: a26 :: a27 :: a28 :: a29 :: w9 :: L9)) : qLet 30 w9 (a0 :: a1 :: a2 :: a3 :: a4 :: a5 :: a6 :: a7 :: a8 :: a9 :: a10 :: a11 :: a12 :: a13 :: a14 :: a15 :: a16 :: a17 :: a18 :: a19 :: a20 :: a21 :: a22 :: a23 :: a24 :: a25 :: a26 :: a27 :: a28 :: a29 :: x9 :: L9) k9 := qLet_iff.mpr h
theorem q_let31 (h : k9 (a0 :: a1 :: a2 :: a3 :: a4 :: a5 :: a6 :: a7 :: a8 :: a9 :: a10 :: a11 :: a12 :: a13 :: a14 :: a15 :: a16 :: a17 :: a18 :: a19 :: a20 :: a21 :: a22 :: a23 :: a24 :: a25 :: a26 :: a27 :: a28 :: a29 :: a30 :: w9 :: L9)) : qLet 31 w9 (a0 :: a1 :: a2 :: a3 :: a4 :: a5 :: a6 :: a7 :: a8 :: a9 :: a10 :: a11 :: a12 :: a13 :: a14 :: a15 :: a16 :: a17 :: a18 :: a19 :: a20 :: a21 :: a22 :: a23 :: a24 :: a25 :: a26 :: a27 :: a28 :: a29 :: a30 :: x9 :: L9) k9 := qLet_iff.mpr h
theorem q_let32 (h : k9 (a0 :: a1 :: a2 :: a3 :: a4 :: a5 :: a6 :: a7 :: a8 :: a9 :: a10 :: a11 :: a12 :: a13 :: a14 :: a15 :: a16 :: a17 :: a18 :: a19 :: a20 :: a21 :: a22 :: a23 :: a24 :: a25 :: a26 :: a27 :: a28 :: a29 :: a30 :: a31 :: w9 :: L9)) : qLet 32 w9 (a0 :: a1 :: a2 :: a3 :: a4 :: a5 :: a6 :: a7 :: a8 :: a9 :: a10 :: a11 :: a12 :: a13 :: a14 :: a15 :: a16 :: a17 :: a18 :: a19 :: a20 :: a21 :: a22 :: a23 :: a24 :: a25 :: a26 :: a27 :: a28 :: a29 :: a30 :: a31 :: x9 :: L9) k9 := qLet_iff.mpr h
theorem q_let33 (h : k9 (a0 :: a1 :: a2 :: a3 :: a4 :: a5 :: a6 :: a7 :: a8 :: a9 :: a10 :: a11 :: a12 :: a13 :: a14 :: a15 :: a16 :: a17 :: a18 :: a19 :: a20 :: a21 :: a22 :: a23 :: a24 :: a25 :: a26 :: a27 :: a28 :: a29 :: a30 :: a31 :: a32 :: w9 :: L9)) : qLet 33 w9 (a0 :: a1 :: a2 :: a3 :: a4 :: a5 :: a6 :: a7 :: a8 :: a9 :: a10 :: a11 :: a12 :: a13 :: a14 :: a15 :: a16 :: a17 :: a18 :: a19 :: a20 :: a21 :: a22 :: a23 :: a24 :: a25 :: a26 :: a27 :: a28 :: a29 :: a30 :: a31 :: a32 :: x9 :: L9) k9 := qLet_iff.mpr h
theorem q_let34 (h : k9 (a0 :: a1 :: a2 :: a3 :: a4 :: a5 :: a6 :: a7 :: a8 :: a9 :: a10 :: a11 :: a12 :: a13 :: a14 :: a15 :: a16 :: a17 :: a18 :: a19 :: a20 :: a21 :: a22 :: a23 :: a24 :: a25 :: a26 :: a27 :: a28 :: a29 :: a30 :: a31 :: a32 :: a33 :: w9 :: L9)) : qLet 34 w9 (a0 :: a1 :: a2 :: a3 :: a4 :: a5 :: a6 :: a7 :: a8 :: a9 :: a10 :: a11 :: a12 :: a13 :: a14 :: a15 :: a16 :: a17 :: a18 :: a19 :: a20 :: a21 :: a22 :: a23 :: a24 :: a25 :: a26 :: a27 :: a28 :: a29 :: a30 :: a31 :: a32 :: a33 :: x9 :: L9) k9 := qLet_iff.mpr h
theorem q_let35 (h : k9 (a0 :: a1 :: a2 :: a3 :: a4 :: a5 :: a6 :: a7 :: a8 :: a9 :: a10 :: a11 :: a12 :: a13 :: a14 :: a15 :: a16 :: a17 :: a18 :: a19 :: a20 :: a21 :: a22 :: a23 :: a24 :: a25 :: a26 :: a27 :: a28 :: a29 :: a30 :: a31 :: a32 :: a33 :: a34 :: w9 :: L9)) : qLet 35 w9 (a0 :: a1 :: a2 :: a3 :: a4 :: a5 :: a6 :: a7 :: a8 :: a9 :: a10 :: a11 :: a12 :: a13 :: a14 :: a15 :: a16 :: a17 :: a18 :: a19 :: a20 :: a21 :: a22 :: a23 :: a24 :: a25 :: a26 :: a27 :: a28 :: a29 :: a30 :: a31 :: a32 :: a33 :: a34 :: x9 :: L9) k9 := qLet_iff.mpr h
theorem q_let36 (h : k9 (a0 :: a1 :: a2 :: a3 :: a4 :: a5 :: a6 :: a7 :: a8 :: a9 :: a10 :: a11 :: a12 :: a13 :: a14 :: a15 :: a16 :: a17 :: a18 :: a19 :: a20 :: a21 :: a22 :: a23 :: a24 :: a25 :: a26 :: a27 :: a28 :: a29 :: a30 :: a31 :: a32 :: a33 :: a34 :: a35 :: w9 :: L9)) : qLet 36 w9 (a0 :: a1 :: a2 :: a3 :: a4 :: a5 :: a6 :: a7 :: a8 :: a9 :: a10 :: a11 :: a12 :: a13 :: a14 :: a15 :: a16 :: a17 :: a18 :: a19 :: a20 :: a21 :: a22 :: a23 :: a24 :: a25 :: a26 :: a27 :: a28 :: a29 :: a30 :: a31 :: a32 :: a33 :: a34 :: a35 :: x9 :: L9) k9 := qLet_iff.mpr h
theorem q_let37 (h : k9 (a0 :: a1 :: a2 :: a3 :: a4 :: a5 :: a6 :: a7 :: a8 :: a9 :: a10 :: a11 :: a12 :: a13 :: a14 :: a15 :: a16 :: a17 :: a18 :: a19 :: a20 :: a21 :: a22 :: a23 :: a24 :: a25 :: a26 :: a27 :: a28 :: a29 :: a30 :: a31 :: a32 :: a33 :: a34 :: a35 :: a36 :: w9 :: L9)) : qLet 37 w9 (a0 :: a1 :: a2 :: a3 :: a4 :: a5 :: a6 :: a7 :: a8 :: a9 :: a10 :: a11 :: a12 :: a13 :: a14 :: a15 :: a16 :: a17 :: a18 :: a19 :: a20 :: a21 :: a22 :: a23 :: a24 :: a25 :: a26 :: a27 :: a28 :: a29 :: a30 :: a31 :: a32 :: a33 :: a34 :: a35 :: a36 :: x9 :: L9) k9 := qLet_iff.mpr h
theorem q_let38 (h : k9 (a0 :: a1 :: a2 :: a3 :: a4 :: a5 :: a6 :: a7 :: a8 :: a9 :: a10 :: a11 :: a12 :: a13 :: a14 :: a15 :: a16 :: a17 :: a18 :: a19 :: a20 :: a21 :: a22 :: a23 :: a24 :: a25 :: a26 :: a27 :: a28 :: a29 :: a30 :: a31 :: a32 :: a33 :: a34 :: a35 :: a36 :: a37 :: w9 :: L9)) : qLet 38 w9 (a0 :: a1 :: a2 :: a3 :: a4 :: a5 :: a6 :: a7 :: a8 :: a9 :: a10 :: a11 :: a12 :: a13 :: a14 :: a15 :: a16 :: a17 :: a18 :: a19 :: a20 :: a21 :: a22 :: a23 :: a24 :: a25 :: a26 :: a27 :: a28 :: a29 :: a30 :: a31 :: a32 :: a33 :: a34 :: a35 :: a36 :: a37 :: x9 :: L9) k9 := qLet_iff.mpr h
theorem q_let39 (h : k9 (a0 :: a1 :: a2 :: a3 :: a4 :: a5 :: a6 :: a7 :: a8 :: a9 :: a10 :: a11 :: a12 :: a13 :: a14 :: a15 :: a16 :: a17 :: a18 :: a19 :: a20 :: a21 :: a22 :: a23 :: a24 :: a25 :: a26 :: a27 :: a28 :: a29 :: a30 :: a31 :: a32 :: a33 :: a34 :: a35 :: a36 :: a37 :: a38 :: w9 :: L9)) : qLet 39 w9 (a0 :: a1 :: a2 :: a3 :: a4 :: a5 :: a6 :: a7 :: a8 :: a9 :: a10 :: a11 :: a12 :: a13 :: a14 :: a15 :: a16 :: a17 :: a18 :: a19 :: a20 :: a21 :: a22 :: a23 :: a24 :: a25 :: a26 :: a27 :: a28 :: a29 :: a30 :: a31 :: a32 :: a33 :: a34 :: a35 :: a36 :: a37 :: a38 :: x9 :: L9) k9 := qLet_iff.mpr h
end
/-! over a written list: turn by turn -/
def FlU (G : Store → Prop) (g : ZTG) (tb : ZS) (D : ZEnds) : List W → Loc' → Store → Prop
  | [], L, S => G S ∧ D.nx L S
  | w :: ws, L, S => G S ∧ g w L S fun L' S' => tb ⟨FlU G g tb D ws, D.rt, D.nx, FlU G g tb D ws⟩ L' S'
theorem forU {its : List W} {G : Store → Prop} {g : ZTG} {tb : ZS} {D : ZEnds} {L : Loc'} {S : Store} (h : FlU G g tb D its L S) : FlEnd ⟨its, G⟩ g tb D L S := by
  unfold FlEnd
  refine ⟨?_⟩
  refine ⟨fun i L S => FlU G g tb D (its.drop i) L S, h, fun i w L S e p => ?_, fun L S p => ?_⟩
  · have e1 : its[i]? = some w := e
    obtain ⟨hi, e2⟩ := List.getElem?_eq_some_iff.mp e1
    replace p : FlU G g tb D (its.drop i) L S := p
    rw [List.drop_eq_getElem_cons hi, e2] at p
    exact p
  · replace p : FlU G g tb D (its.drop its.length) L S := p
    rw [List.drop_length] at p
    exact p
def LcU (G : Store → Prop) (g : ZTG) (tt : ZT) (te : ZE) (L : Loc') (n : Nat) (K : WK) : List W → List W → Store → Prop
  | [], _, S2 => G S2 ∧ K (.ref n) S2
  | w :: ws, acc, S2 => G S2 ∧ S2[n]? = some (.lst acc) ∧ g w L S2 fun L' S3 => tt L' S3 fun b S4 => qIf b (te L' S4 fun y S5 => qPush n acc y S5 (LcU G g tt te L n K ws)) (LcU G g tt te L n K ws acc S4)
theorem lcU {its : List W} {G : Store → Prop} {g : ZTG} {tt : ZT} {te : ZE} {vs : List Nat} {L : Loc'} {S1 : Store} {K : WK} (h : qWipe L vs fun L0 => LcU G g tt te L0 S1.length K its [] (S1 ++ [.lst []])) : LcEnd ⟨its, G⟩ g tt te vs L S1 K := by
  unfold LcEnd
  refine ⟨?_⟩
  replace h := qWipe_eq.mp h
  refine ⟨fun i acc S => LcU G g tt te (wipeL L vs) S1.length K (its.drop i) acc S, h, fun i acc w S2 e p => ?_, fun acc S p => ?_⟩
  · have e1 : its[i]? = some w := e
    obtain ⟨hi, e2⟩ := List.getElem?_eq_some_iff.mp e1
    replace p : LcU G g tt te (wipeL L vs) S1.length K (its.drop i) acc S2 := p
    rw [List.drop_eq_getElem_cons hi, e2] at p
    obtain ⟨p1, p2, p3⟩ := p
    refine ⟨p1, p2, ?_⟩
    exact p3
  · replace p : LcU G g tt te (wipeL L vs) S1.length K (its.drop its.length) acc S := p
    rw [List.drop_length] at p
    exact p
theorem q_push0 {S T : Store} {acc : List W} {y : W} {KS : List W → Store → Prop} (hz : acc.length < sizeLine) (h : KS (acc ++ [y]) (S ++ .lst (acc ++ [y]) :: T)) : qPush S.length acc y (S ++ .lst acc :: T) KS := by
  unfold qPush
  refine ⟨?_⟩
  exact ⟨by rw [app_get0]; rfl, hz, by rw [app_set0]; exact h⟩
theorem q_push {S : Store} {n : Nat} {acc : List W} {y : W} {KS : List W → Store → Prop} (e : S[n]? = some (.lst acc)) (hz : acc.length < sizeLine) (h : KS (acc ++ [y]) (S.set n (.lst (acc ++ [y])))) : qPush n acc y S KS := by
  unfold qPush
  refine ⟨?_⟩
  exact ⟨e, hz, h⟩
/-- a promise of nothing -/
theorem zfn_false {P : Program} {w : World} {K : PySem.W.Frag} {mg : Str → Option Value} {base : Heap} {TB : List Addr} {k : Nat} {f : Addr} {fd : FuncData} {ps : List Str} : ZFn P w K mg base TB k f fd ps fun _ _ _ => False :=
  ⟨fun _ _ _ _ ⟨h, _⟩ => h, fun _ _ _ _ _ _ _ _ _ _ _ _ _ ⟨_, _, _, _, _, _, _, h, _⟩ => h.elim⟩
theorem rangeW_inv {lo : Int} {n i : Nat} {w : W} (h : (rangeW lo n)[i]? = some w) : i < n ∧ w = .int (lo + (i : Nat)) := by
  have hi : i < n := by
    have := (List.getElem?_eq_some_iff.mp h).1
    rwa [rangeW_length] at this
  rw [rangeW_get hi] at h
  exact ⟨hi, (Option.some.inj h).symm⟩
theorem rangeW_inv0 {n i : Nat} {w : W} (h : (rangeW 0 n)[i]? = some w) : i < n ∧ w = .int (i : Nat) := by
  have := rangeW_inv h
  rwa [Int.zero_add] at this
/-! values without addresses -/
mutual
inductive Pl : Nat → W → Prop
  | non (d : Nat) : Pl d .non
  | bl (d : Nat) (b : Bool) : Pl d (.bl b)
  | int (d : Nat) (i : Int) : Pl d (.int i)
  | str (d : Nat) (s : Str) (h : PyData.strOk s = true) : Pl d (.str s)
  | tup {d : Nat} {xs : List W} (hz : xs.length ≤ 16777216) (h : Pls d xs) : Pl (d + 1) (.tup xs)
inductive Pls : Nat → List W → Prop
  | nil (d : Nat) : Pls d []
  | cons {d : Nat} {x : W} {xs : List W} (h1 : Pl d x) (h2 : Pls d xs) : Pls d (x :: xs)
end
theorem Pls.get {d : Nat} {xs : List W} (h : Pls d xs) {k : Nat} {x : W} (e : xs[k]? = some x) : Pl d x := by
  induction xs generalizing k with
  | nil => cases e
  | cons y ys ih =>
    cases h with
    | cons h1 h2 =>
      cases k with
      | zero => cases e; exact h1
      | succ k => exact ih h2 e
theorem Pls.of {d : Nat} {xs : List W} (h : ∀ x ∈ xs, Pl d x) : Pls d xs := by
  induction xs with
  | nil => exact .nil d
  | cons y ys ih => exact .cons (h y (by simp)) (ih fun x hx => h x (by simp [hx]))
theorem Pl.mono {d e : Nat} {x : W} (h : Pl d x) (he : d ≤ e) : Pl e x := by
  revert he
  induction h using Pl.rec (motive_2 := fun d xs _ => ∀ e, d ≤ e → Pls e xs) generalizing e with
  | non => exact fun _ => .non _
  | bl => exact fun _ => .bl _ _
  | int => exact fun _ => .int _ _
  | str _ _ h => exact fun _ => .str _ _ h
  | tup hz _ ih =>
    intro he
    cases e with
    | zero => omega
    | succ e => exact .tup hz (ih e (by omega))
  | nil => exact .nil _
  | cons _ _ ih1 ih2 => rename_i e' he'; exact .cons (ih1 he') (ih2 e' he')
/-! values as data -/
mutual
def dat : W → PyData
  | .non => .none
  | .bl b => .bool b
  | .int i => .int i
  | .str s => .str s
  | .tup xs => .tuple (dats xs)
  | .ref _ => .none
  | .ty _ => .none
def dats : List W → List PyData
  | [] => []
  | x :: xs => dat x :: dats xs
end
theorem dats_map : ∀ xs : List W, dats xs = xs.map dat
  | [] => rfl
  | x :: xs => by rw [dats, dats_map xs]; rfl
mutual
theorem Pl.data {S : Store} : ∀ {d : Nat} {x : W}, Pl d x → DataOf S x (dat x) ∧ (dat x).canLay0 = true ∧ (dat x).depth ≤ d
  | _, _, .non _ => ⟨.non, rfl, Nat.zero_le _⟩
  | _, _, .bl _ b => ⟨.bl b, rfl, Nat.zero_le _⟩
  | _, _, .int _ i => ⟨.int i, rfl, Nat.zero_le _⟩
  | _, _, .str _ s h => ⟨.str s, by rw [dat, PyData.canLay0]; exact h, Nat.zero_le _⟩
  | _, _, .tup _ h => let h' := Pls.data (S := S) h; ⟨by rw [dat]; exact .tup h'.1, by rw [dat, PyData.canLay0]; exact h'.2.1, by rw [dat, PyData.depth]; have := h'.2.2; omega⟩
theorem Pls.data {S : Store} : ∀ {d : Nat} {xs : List W}, Pls d xs → DataAll S xs (dats xs) ∧ PyData.canLayAll0 (dats xs) = true ∧ PyData.depthAll (dats xs) ≤ d
  | _, _, .nil _ => ⟨.nil, rfl, Nat.zero_le _⟩
  | _, _, .cons h t => let h' := Pl.data (S := S) h; let t' := Pls.data (S := S) t; ⟨by rw [dats]; exact .cons h'.1 t'.1, by rw [dats, PyData.canLayAll0, h'.2.1, t'.2.1]; rfl, by rw [dats, PyData.depthAll]; have := h'.2.2; have := t'.2.2; omega⟩
end
theorem shaped_of {d : PyData} {n : Nat} (h1 : d.canLay0 = true) (h2 : d.depth ≤ n) (h3 : n ≤ 64) : SeqAt.shaped d = true := by
  unfold SeqAt.shaped
  rw [h1, decide_eq_true (by omega)]
  rfl
mutual
/-- values without truth values in them -/
inductive Pn : Nat → W → Prop
  | non (d : Nat) : Pn d .non
  | int (d : Nat) (i : Int) : Pn d (.int i)
  | str (d : Nat) (s : Str) (h : PyData.strOk s = true) : Pn d (.str s)
  | tup {d : Nat} {xs : List W} (hz : xs.length ≤ 16777216) (h : Pns d xs) : Pn (d + 1) (.tup xs)
inductive Pns : Nat → List W → Prop
  | nil (d : Nat) : Pns d []
  | cons {d : Nat} {x : W} {xs : List W} (h1 : Pn d x) (h2 : Pns d xs) : Pns d (x :: xs)
end
mutual
theorem Pn.pl : ∀ {d : Nat} {x : W}, Pn d x → Pl d x
  | _, _, .non _ => .non _
  | _, _, .int _ _ => .int _ _
  | _, _, .str _ _ h => .str _ _ h
  | _, _, .tup hz h => .tup hz (Pns.pl h)
theorem Pns.pl : ∀ {d : Nat} {xs : List W}, Pns d xs → Pls d xs
  | _, _, .nil _ => .nil _
  | _, _, .cons h t => .cons (Pn.pl h) (Pns.pl t)
end
theorem Pns.of {d : Nat} {xs : List W} (h : ∀ x ∈ xs, Pn d x) : Pns d xs := by
  induction xs with
  | nil => exact .nil d
  | cons y ys ih => exact .cons (h y (by simp)) (ih fun x hx => h x (by simp [hx]))
theorem Pns.mem {d : Nat} {xs : List W} (h : Pns d xs) {x : W} (hx : x ∈ xs) : Pn d x := by
  induction xs with
  | nil => cases hx
  | cons y ys ih =>
    cases h with
    | cons h1 h2 =>
      rcases List.mem_cons.mp hx with e | e
      · exact e ▸ h1
      · exact ih h2 e
mutual
theorem Pn.eqv : ∀ {d e : Nat} {x y : W}, Pn d x → Pn e y → (PyData.eqv (dat x) (dat y) = true ↔ x = y)
  | _, _, _, _, .non _, .non _ => by simp [dat, PyData.eqv]
  | _, _, _, _, .non _, .int _ _ => by simp [dat, PyData.eqv]
  | _, _, _, _, .non _, .str _ _ _ => by simp [dat, PyData.eqv]
  | _, _, _, _, .non _, .tup _ _ => by simp [dat, PyData.eqv]
  | _, _, _, _, .int _ _, .non _ => by simp [dat, PyData.eqv]
  | _, _, _, _, .int _ _, .int _ _ => by simp [dat, PyData.eqv]
  | _, _, _, _, .int _ _, .str _ _ _ => by simp [dat, PyData.eqv]
  | _, _, _, _, .int _ _, .tup _ _ => by simp [dat, PyData.eqv]
  | _, _, _, _, .str _ _ _, .non _ => by simp [dat, PyData.eqv]
  | _, _, _, _, .str _ _ _, .int _ _ => by simp [dat, PyData.eqv]
  | _, _, _, _, .str _ _ _, .str _ _ _ => by simp [dat, PyData.eqv]
  | _, _, _, _, .str _ _ _, .tup _ _ => by simp [dat, PyData.eqv]
  | _, _, _, _, .tup _ _, .non _ => by simp [dat, PyData.eqv]
  | _, _, _, _, .tup _ _, .int _ _ => by simp [dat, PyData.eqv]
  | _, _, _, _, .tup _ _, .str _ _ _ => by simp [dat, PyData.eqv]
  | _, _, _, _, .tup _ h, .tup _ h' => by rw [dat, dat, PyData.eqv, Pns.eqv h h']; simp
theorem Pns.eqv : ∀ {d e : Nat} {xs ys : List W}, Pns d xs → Pns e ys → (PyData.eqvAll (dats xs) (dats ys) = true ↔ xs = ys)
  | _, _, _, _, .nil _, .nil _ => by simp [dats, PyData.eqvAll]
  | _, _, _, _, .nil _, .cons _ _ => by simp [dats, PyData.eqvAll]
  | _, _, _, _, .cons _ _, .nil _ => by simp [dats, PyData.eqvAll]
  | _, _, _, _, .cons h t, .cons h' t' => by rw [dats, dats, PyData.eqvAll, Bool.and_eq_true, Pn.eqv h h', Pns.eqv t t']; simp
end
theorem bool_dec {b : Bool} {p : Prop} [Decidable p] (h : b = true ↔ p) : b = decide p := by
  cases b
  · exact (decide_eq_false fun hp => Bool.false_ne_true (h.mpr hp)).symm
  · exact (decide_eq_true (h.mp rfl)).symm
section
variable {S : Store} {K : WK} {x y : W} {xs ys : List W} {n m d e : Nat}
open Classical in
theorem q_eq_pn (hx : Pn d x) (hy : Pn e y) (h1 : d ≤ 64) (h2 : e ≤ 64) (h : K (.bl (decide (x = y))) S) : qEq false x y S K := by
  obtain ⟨a, b, c⟩ := hx.pl.data (S := S)
  obtain ⟨a', b', c'⟩ := hy.pl.data (S := S)
  exact qEq_scal a a' (shaped_of b c h1) (shaped_of b' c' h2) (bool_dec (hx.eqv hy)) (by rw [Bool.false_xor]; exact h)
open Classical in
theorem q_ne_pn (hx : Pn d x) (hy : Pn e y) (h1 : d ≤ 64) (h2 : e ≤ 64) (h : K (.bl (!decide (x = y))) S) : qEq true x y S K := by
  obtain ⟨a, b, c⟩ := hx.pl.data (S := S)
  obtain ⟨a', b', c'⟩ := hy.pl.data (S := S)
  exact qEq_scal a a' (shaped_of b c h1) (shaped_of b' c' h2) (bool_dec (hx.eqv hy)) (by rw [Bool.true_xor]; exact h)
theorem lst_data (hl : IsLst S n xs) (h : Pls d xs) (hd : d ≤ 63) : DataOf S (.ref n) (.list (dats xs)) ∧ SeqAt.shaped (.list (dats xs)) = true := by
  obtain ⟨a, b, c⟩ := h.data (S := S)
  exact ⟨.ref hl a, shaped_of (n := d + 1) (by rw [PyData.canLay0]; exact b) (by rw [PyData.depth]; omega) (by omega)⟩
open Classical in
theorem q_eq_lpn (hx : IsLst S n xs) (hy : IsLst S m ys) (h1 : Pns d xs) (h2 : Pns e ys) (h3 : d ≤ 63) (h4 : e ≤ 63) (h : K (.bl (decide (xs = ys))) S) : qEq false (.ref n) (.ref m) S K := by
  obtain ⟨a, b⟩ := lst_data hx h1.pl h3
  obtain ⟨a', b'⟩ := lst_data hy h2.pl h4
  exact qEq_scal (b := decide (xs = ys)) a a' b b' (by rw [PyData.eqv]; exact bool_dec (h1.eqv h2)) (by rw [Bool.false_xor]; exact h)
open Classical in
theorem q_ne_lpn (hx : IsLst S n xs) (hy : IsLst S m ys) (h1 : Pns d xs) (h2 : Pns e ys) (h3 : d ≤ 63) (h4 : e ≤ 63) (h : K (.bl (!decide (xs = ys))) S) : qEq true (.ref n) (.ref m) S K := by
  obtain ⟨a, b⟩ := lst_data hx h1.pl h3
  obtain ⟨a', b'⟩ := lst_data hy h2.pl h4
  exact qEq_scal (b := decide (xs = ys)) a a' b b' (by rw [PyData.eqv]; exact bool_dec (h1.eqv h2)) (by rw [Bool.true_xor]; exact h)
theorem any_mem (hx : Pn d x) (hy : Pns e ys) [Decidable (x ∈ ys)] : ((dats ys).any fun z => PyData.eqv z (dat x)) = decide (x ∈ ys) := bool_dec (by
  rw [dats_map, List.any_map, List.any_eq_true]
  constructor
  · rintro ⟨z, hz, hq⟩
    rw [← ((hy.mem hz).eqv hx).mp hq]
    exact hz
  · intro h
    exact ⟨x, h, (hx.eqv hx).mpr rfl⟩)
theorem q_in {neg : Bool} [Decidable (x ∈ ys)] (hd : DataOf S y (.list (dats ys)) ∨ DataOf S y (.tuple (dats ys))) (hx : Pn d x) (hy : Pns e ys) (h1 : d ≤ 64) (h2 : e ≤ 63) (h : K (.bl (neg ^^ decide (x ∈ ys))) S) : qIn neg x y S K := by
  obtain ⟨a, b, c⟩ := hx.pl.data (S := S)
  obtain ⟨_, b', c'⟩ := hy.pl.data (S := S)
  unfold qIn
  exact ⟨.inl ⟨_, _, a, hd, shaped_of b c h1, shaped_of (n := e + 1) (by rw [PyData.canLay0]; exact b') (by rw [PyData.depth]; omega) (by omega), by rw [any_mem hx hy]; exact h⟩⟩
open Classical in
theorem q_in_l (hl : IsLst S n ys) (hx : Pn d x) (hy : Pns e ys) (h1 : d ≤ 64) (h2 : e ≤ 63) (h : K (.bl (decide (x ∈ ys))) S) : qIn false x (.ref n) S K :=
  q_in (.inl (.ref hl hy.pl.data.1)) hx hy h1 h2 (by rw [Bool.false_xor]; exact h)
open Classical in
theorem q_in_t (hx : Pn d x) (hy : Pns e ys) (h1 : d ≤ 64) (h2 : e ≤ 63) (h : K (.bl (decide (x ∈ ys))) S) : qIn false x (.tup ys) S K :=
  q_in (.inr (.tup hy.pl.data.1)) hx hy h1 h2 (by rw [Bool.false_xor]; exact h)
open Classical in
theorem q_notin_l (hl : IsLst S n ys) (hx : Pn d x) (hy : Pns e ys) (h1 : d ≤ 64) (h2 : e ≤ 63) (h : K (.bl (!decide (x ∈ ys))) S) : qIn true x (.ref n) S K :=
  q_in (.inl (.ref hl hy.pl.data.1)) hx hy h1 h2 (by rw [Bool.true_xor]; exact h)
open Classical in
theorem q_notin_t (hx : Pn d x) (hy : Pns e ys) (h1 : d ≤ 64) (h2 : e ≤ 63) (h : K (.bl (!decide (x ∈ ys))) S) : qIn true x (.tup ys) S K :=
  q_in (.inr (.tup hy.pl.data.1)) hx hy h1 h2 (by rw [Bool.true_xor]; exact h)
theorem q_index {j : Nat} (hl : IsLst S n ys) (hx : Pn d x) (hy : Pns e ys) (h1 : d ≤ 64) (h2 : e ≤ 63) (hj : ys[j]? = some x) (hm : ∀ m, m < j → ys[m]? ≠ some x) (h : K (.int (j : Nat)) S) : qIndex (.ref n) [x] S K := by
  obtain ⟨a, b, c⟩ := hx.pl.data (S := S)
  obtain ⟨a', b'⟩ := lst_data hl hy.pl h2
  have e1 : (dats ys)[j]? = some (dat x) := by rw [dats_map, List.getElem?_map, hj]; rfl
  unfold qIndex
  refine ⟨⟨_, _, j, _, a', a, b', shaped_of b c h1, e1, (hx.eqv hx).mpr rfl, fun m z' hmj hz => ?_, h⟩⟩
  rw [dats_map, List.getElem?_map, Option.map_eq_some_iff] at hz
  obtain ⟨z, hz, rfl⟩ := hz
  cases hq : PyData.eqv (dat z) (dat x)
  · rfl
  · have := ((hy.mem (List.mem_of_getElem? hz)).eqv hx).mp hq
    subst this
    exact (hm m hmj hz).elim
end
section
variable {L : Loc'} {S1 : Store} {K : WK} {te : ZE} {tt : ZT} {g : ZTG} {vs : List Nat} {its : List W} {G : Store → Prop}
theorem lcMap (f : W → W) (hG : ∀ S, Ext S1 S → G S) (hsz : its.length ≤ sizeLine)
    (turn : ∀ (i : Nat) (w : W) (S2 : Store) (Kt : WK) (Kf : Store → Prop), its[i]? = some w → Ext S1 S2 → (∀ S5, Ext S2 S5 → Kt (f w) S5) → qWipe L vs fun L0 => g w L0 S2 fun L' S3 => tt L' S3 fun b S4 => qIf b (te L' S4 Kt) (Kf S4))
    (done : ∀ S2, Ext S1 S2 → S2[S1.length]? = some (.lst (its.map f)) → K (.ref S1.length) S2) : LcEnd ⟨its, G⟩ g tt te vs L S1 K :=
  lcF (fun w => some (f w)) hG hsz (fun i w S2 Kt Kf hw k hK _ => turn i w S2 Kt Kf hw k fun S5 k5 => hK _ _ rfl k5) fun S2 k h => done S2 k (by rw [h]; congr 2; exact (List.filterMap_eq_map (f := f) ▸ rfl))
end
/-- over a range, a pure element told by its number, no test -/
theorem lcMap2 {L : Loc'} {S1 : Store} {K : WK} {te : ZE} {g : ZTG} {vs : List Nat} {m : Nat} (f : Nat → W) (hsz : (rangeW 0 m).length ≤ sizeLine) (turn : ∀ (i : Nat) (S2 : Store) (Kt : WK), i < m → Ext S1 S2 → (∀ S5, Ext S2 S5 → Kt (f i) S5) → qWipe L vs fun L0 => g (.int (i : Nat)) L0 S2 fun L' S3 => te L' S3 Kt)
    (done : ∀ S2, Ext S1 S2 → S2[S1.length]? = some (.lst ((List.range m).map f)) → K (.ref S1.length) S2) : LcEnd ⟨rangeW 0 m, fun _ => True⟩ g (fun _ S K => K true S) te vs L S1 K :=
  lcM (fun i _ => f i) (fun _ _ => trivial) hsz (fun i w S2 Kt Kf hw k hK => by
    obtain ⟨hi, rfl⟩ := rangeW_inv0 hw
    have := turn i S2 Kt hi k hK
    simp only [qIf_t]
    exact this) fun S2 k h => done S2 k (by
      rw [h]
      congr 2
      apply List.ext_getElem?
      intro i
      rw [List.getElem?_mapIdx, List.getElem?_map]
      by_cases hi : i < m
      · rw [rangeW_get hi, List.getElem?_range hi]; rfl
      · rw [List.getElem?_eq_none (l := rangeW 0 m) (by rw [rangeW_length]; omega), List.getElem?_eq_none (l := List.range m) (by rw [List.length_range]; omega)]; rfl)
section
variable {S : Store} {K : WK} {n : Nat}
theorem s_sorted {ns : List Int} (e : IsLst S n (ns.map W.int)) (h : ∀ ns' : List Int, ns'.Perm ns → ns'.Pairwise (· ≤ ·) → K (.ref S.length) (S ++ [.lst (ns'.map W.int)])) : qSorted [.ref n] S K := by
  unfold qSorted
  exact ⟨⟨ns, e, h⟩⟩
end
end Z

set_option maxHeartbeats 4000000
/-! Z10: the helpers that twenty of the laws share: the flow of numbers, and the likeness of two values. -/
namespace FA
open PySem PySem.Spec PyProof.Rows L2 Z
local macro_rules | `(tactic| tb_start) => `(tactic| first | assumption | exact True.intro | exact ⟨_, _, rfl, by ke_read⟩ | ((with_reducible refine' MulOk.r ?s1 ?s2); (case s1 => (decide)); (case s2 => (decide))) | ((with_reducible refine' DivOk.any ?s1); (case s1 => (assumption))) | ((with_reducible refine' DivOk.small ?s1 ?s2); (case s1 => (decide)); (case s2 => (decide))) | ((with_reducible refine' MulOk.r ?s1 ?s2); (case s1 => (omega)); (case s2 => (omega))) | ((with_reducible refine' MulOk.l ?s1 ?s2); (case s1 => (omega)); (case s2 => (omega))) | ((with_reducible refine' DivOk.small ?s1 ?s2); (case s1 => (omega)); (case s2 => (omega))) | ((with_reducible refine' PowOk.lit ?s1 ?s2 ?s3); (case s1 => (decide)); (case s2 => (decide)); (case s3 => (decide))) | omega | ((with_reducible refine' s_sz ?s1); (case s1 => (first | omega | (simp only [List.length_append, List.length_cons, List.length_nil, List.length_map, List.length_set, List.length_take, List.length_drop, List.length_dropLast] <;> omega)))) | ((with_reducible refine' s_szl ?s1); (case s1 => (first | omega | (simp only [List.length_append, List.length_cons, List.length_nil, List.length_map, List.length_set, List.length_take, List.length_drop, List.length_dropLast] <;> omega)))) | ke_read | ked_read | decide)
local macro_rules | `(tactic| ke_reads) => `(tactic| first | assumption | exact Ne.symm (by assumption) | omega | (simp only [List.length_append, List.length_cons, List.length_nil, List.length_set] at * <;> omega))
local macro_rules | `(tactic| ked_reads) => `(tactic| first | assumption | ((with_reducible refine' lt_of_get ?s1); (case s1 => (ked_read))))
local macro_rules | `(tactic| ked_read) => `(tactic| first | assumption | ((with_reducible refine' List.getElem?_set_self ?s1); (case s1 => (ked_reads))) | ((with_reducible refine' set_ne' ?s1 ?s2); (case s1 => (ke_reads)); (case s2 => (ked_read))) | exact (app_get0 _ _).trans rfl | exact (app_get _ _ _).trans rfl | ((with_reducible refine' app_l ?s1); (case s1 => (ked_read))))
local macro_rules | `(tactic| ke_read) => `(tactic| first | assumption | (apply getL_of; assumption) | ((with_reducible refine' getL_set_self ?s1); (case s1 => (ked_reads))) | exact getL_app00 _ _ _ | exact getL_app1 _ _ _ _ | ((with_reducible refine' getL_set_ne' ?s1 ?s2); (case s1 => (ke_reads)); (case s2 => (ke_read))) | ((with_reducible refine' getL_app_l ?s1); (case s1 => (ke_read))) | exact (getL_app _ _ _).trans rfl)
local macro_rules | `(tactic| kqd_all) => `(tactic| first | assumption | (rw [atI_m1]; first | with_unfolding_all rfl | assumption) | (rw [atI_lit]; first | with_unfolding_all rfl | assumption) | (rw [atI_cast]; assumption) | exact atI_ints (by omega) (by simp only [List.length_map] at *; omega))
local macro_rules | `(tactic| kct_strs) => `(tactic| first | assumption | (rw [ixN_lit, if_pos (by simp)]; done))
local macro_rules | `(tactic| kp_flats) => `(tactic| first | with_reducible refine q_let0 ?_ | with_reducible refine q_let1 ?_ | with_reducible refine q_let2 ?_ | with_reducible refine q_let3 ?_ | with_reducible refine q_let4 ?_ | with_reducible refine q_let5 ?_ | with_reducible refine q_let6 ?_ | with_reducible refine q_let7 ?_ | with_reducible refine q_let8 ?_ | with_reducible refine q_let9 ?_ | with_reducible refine q_let10 ?_ | with_reducible refine q_let11 ?_ | with_reducible refine q_let12 ?_ | with_reducible refine q_let13 ?_ | with_reducible refine q_let14 ?_ | with_reducible refine q_let15 ?_ | with_reducible refine q_let16 ?_ | with_reducible refine q_let17 ?_ | with_reducible refine q_let18 ?_ | with_reducible refine q_let19 ?_ | with_reducible refine q_let20 ?_ | with_reducible refine q_let21 ?_ | with_reducible refine q_let22 ?_ | with_reducible refine q_let23 ?_ | with_reducible refine q_let24 ?_ | with_reducible refine q_let25 ?_ | with_reducible refine q_let26 ?_ | with_reducible refine q_let27 ?_ | with_reducible refine q_let28 ?_ | with_reducible refine q_let29 ?_ | with_reducible refine q_let30 ?_ | with_reducible refine q_let31 ?_ | with_reducible refine q_let32 ?_ | with_reducible refine q_let33 ?_ | with_reducible refine q_let34 ?_ | with_reducible refine q_let35 ?_ | with_reducible refine q_let36 ?_ | with_reducible refine q_let37 ?_ | with_reducible refine q_let38 ?_ | with_reducible refine q_let39 ?_)
local macro_rules | `(tactic| tb_rel) => `(tactic| first | ((with_reducible show qLet _ _ _ _); kp_flats) | ((with_reducible refine' i_dt ?s1 ?_); (case s1 => (first | assumption | rfl))) | ((with_reducible refine' i_df ?s1 ?_); (case s1 => (assumption))) | ((with_reducible refine' i_nf ?s1 ?_); (case s1 => (first | assumption | rfl))) | ((with_reducible refine' i_nt ?s1 ?_); (case s1 => (assumption))) | ((with_reducible refine' i_t ?s1 ?_); (case s1 => (with_unfolding_all rfl))) | ((with_reducible refine' i_f ?s1 ?_); (case s1 => (with_unfolding_all rfl))) | ((with_reducible refine' q_ix_tup ?s1 ?_); (case s1 => (kqd_all))) | ((with_reducible refine' q_ix_ref ?s1 ?s2 ?_); (case s1 => (ke_read)); (case s2 => (kqd_all))) | ((with_reducible refine' q_eq_int ?_)) | ((with_reducible refine' q_ne_int ?_)) | ((with_reducible refine' q_eq_str ?s1 ?s2 ?_); (case s1 => (first | assumption | decide +kernel)); (case s2 => (first | assumption | decide +kernel))) | ((with_reducible refine' q_ne_str ?s1 ?s2 ?_); (case s1 => (first | assumption | decide +kernel)); (case s2 => (first | assumption | decide +kernel))) | ((with_reducible refine' q_len_tup ?_)) | ((with_reducible refine' q_len_ref ?s1 ?_); (case s1 => (ke_read))) | ((with_reducible refine' s_isml ?s1 ?_); (case s1 => (ke_read))) | ((with_reducible refine' q_append2 ?s1 ?s2 ?_); (case s1 => (ked_reads)); (case s2 => (tb_start))) | ((with_reducible refine' q_append0 ?s1 ?_); (case s1 => (tb_start))) | ((with_reducible refine' q_append1 ?s1 ?_); (case s1 => (tb_start))) | ((with_reducible refine' q_append ?s1 ?s2 ?_); (case s1 => (ked_read)); (case s2 => (tb_start))) | ((with_reducible refine' q_cat ?s1 ?s2 ?s3 ?_); (case s1 => (ked_read)); (case s2 => (ked_read)); (case s3 => (tb_start))) | ((with_reducible refine' q_pop0 ?s1 ?_); (case s1 => (ked_read))) | ((with_reducible refine' q_setL2 ?s1 ?s2 ?_); (case s1 => (ked_reads)); (case s2 => (kct_strs))) | ((with_reducible refine' q_setL ?s1 ?s2 ?_); (case s1 => (ked_read)); (case s2 => (kct_strs))) | ((with_reducible refine' q_tup_tup ?_)) | ((with_reducible refine' q_tup_ref ?s1 ?_); (case s1 => (ke_read))) | ((with_reducible refine' q_list_tup ?_)) | ((with_reducible refine' q_list_ref ?s1 ?_); (case s1 => (ke_read))) | ((with_reducible refine' q_sl_tupE ?s1 ?_); (case s1 => (assumption))) | ((with_reducible refine' q_sl_refE ?s1 ?s2 ?_); (case s1 => (ke_read)); (case s2 => (assumption))) | ((with_reducible refine' q_sl_tup ?_)) | ((with_reducible refine' q_sl_ref ?s1 ?_); (case s1 => (ke_read))) | ((with_reducible refine' s_enumI_tup ?_)) | ((with_reducible refine' s_enumI_ref ?s1 ?_); (case s1 => (ke_read))) | ((with_reducible refine' s_seqI_tup ?_)) | ((with_reducible refine' s_seqI_ref ?s1 ?_); (case s1 => (ke_read))) | ((with_reducible refine' q_eq_pn (d := 8) (e := 8) ?s1 ?s2 ?s3 ?s4 ?_); (case s1 => (lsm_bools)); (case s2 => (lsm_bools)); (case s3 => (first | decide | omega)); (case s4 => (first | decide | omega))) | ((with_reducible refine' q_ne_pn (d := 8) (e := 8) ?s1 ?s2 ?s3 ?s4 ?_); (case s1 => (lsm_bools)); (case s2 => (lsm_bools)); (case s3 => (first | decide | omega)); (case s4 => (first | decide | omega))) | ((with_reducible refine' q_eq_lpn (d := 8) (e := 8) ?s1 ?s2 ?s3 ?s4 ?s5 ?s6 ?_); (case s1 => (ke_read)); (case s2 => (ke_read)); (case s3 => (lsm_bools)); (case s4 => (lsm_bools)); (case s5 => (first | decide | omega)); (case s6 => (first | decide | omega))) | ((with_reducible refine' q_ne_lpn (d := 8) (e := 8) ?s1 ?s2 ?s3 ?s4 ?s5 ?s6 ?_); (case s1 => (ke_read)); (case s2 => (ke_read)); (case s3 => (lsm_bools)); (case s4 => (lsm_bools)); (case s5 => (first | decide | omega)); (case s6 => (first | decide | omega))) | ((with_reducible refine' q_is_non ?_)) | ((with_reducible refine' q_isnot_non ?_)) | ((with_reducible refine' q_eq_bl ?_)) | ((with_reducible refine' q_ne_bl ?_)) | ((with_reducible refine' q_isi ?s1 ?s2 ?_); (case s1 => (with_unfolding_all rfl)); (case s2 => (with_unfolding_all rfl))) | ((with_reducible refine' q_in_l (d := 8) (e := 8) ?s1 ?s2 ?s3 ?s4 ?s5 ?_); (case s1 => (ke_read)); (case s2 => (lsm_bools)); (case s3 => (lsm_bools)); (case s4 => (first | decide | omega)); (case s5 => (first | decide | omega))) | ((with_reducible refine' q_in_t (d := 8) (e := 8) ?s1 ?s2 ?s3 ?s4 ?_); (case s1 => (lsm_bools)); (case s2 => (lsm_bools)); (case s3 => (first | decide | omega)); (case s4 => (first | decide | omega))) | ((with_reducible refine' q_notin_l (d := 8) (e := 8) ?s1 ?s2 ?s3 ?s4 ?s5 ?_); (case s1 => (ke_read)); (case s2 => (lsm_bools)); (case s3 => (lsm_bools)); (case s4 => (first | decide | omega)); (case s5 => (first | decide | omega))) | ((with_reducible refine' q_notin_t (d := 8) (e := 8) ?s1 ?s2 ?s3 ?s4 ?_); (case s1 => (lsm_bools)); (case s2 => (lsm_bools)); (case s3 => (first | decide | omega)); (case s4 => (first | decide | omega))) | ((with_reducible refine' q_push0 ?s1 ?_); (case s1 => (tb_start))) | ((with_reducible refine' q_push ?s1 ?s2 ?_); (case s1 => (ked_read)); (case s2 => (tb_start))) | ((with_reducible refine' And.intro ?s1 ?_); (case s1 => (tb_start))))
local macro_rules | `(tactic| kbo_bools) => `(tactic| first | with_reducible refine i_d (fun _ => ?_) (fun _ => ?_) | with_reducible refine i_n (fun _ => ?_) (fun _ => ?_))
local macro_rules | `(tactic| keq_rows) => `(tactic| ((conv => whnf); repeat (tb_rel; (conv => whnf))))
local macro_rules | `(tactic| k_upd) => `(tactic| (keq_rows; try (kbo_bools <;> k_upd)))
local macro_rules | `(tactic| kat_tups) => `(tactic| (simp only [startL, List.map_cons, List.map_nil, List.length_cons, List.length_nil, Nat.zero_add, Nat.reduceAdd, Nat.reduceSub, List.reduceReplicate, List.cons_append, List.nil_append]; keq_rows))
local macro_rules | `(tactic| k_updF) => `(tactic| first | assumption | exact Keep.refl _ _ | exact Keep.app _ _ _ | ((with_reducible refine' Keep.app_r ?s1); (case s1 => (k_updF))) | ((with_reducible refine' Keep.set_in ?s1 ?s2); (case s1 => ((simp only [List.mem_cons, true_or, or_true]))); (case s2 => (k_updF))) | ((with_reducible refine' Keep.set_new ?s1 ?s2); (case s1 => (first | omega | (simp only [List.length_append, List.length_cons, List.length_nil, List.length_set] at * <;> omega))); (case s2 => (k_updF))) | exact Ext.keep (by assumption) | ((with_reducible refine' Keep.trans ?a (by assumption)); (case a => (k_updF))) | ((with_reducible refine' Keep.trans ?a (Ext.keep (by assumption))); (case a => (k_updF))))
local macro_rules | `(tactic| lsm_bools) => `(tactic| first | assumption | exact Pl.int _ _ | exact Pn.int _ _ | ((with_reducible refine' Pl.str _ _ ?s1); (case s1 => (first | assumption | decide +kernel))) | ((with_reducible refine' Pn.str _ _ ?s1); (case s1 => (first | assumption | decide +kernel))) | exact Pn.non _ | exact Pl.non _ | exact Pl.bl _ _ | exact Pns.nil _ | exact Pls.nil _ | ((with_reducible refine' Pls.cons ?s1 ?s2); (case s1 => (lsm_bools)); (case s2 => (lsm_bools))) | ((with_reducible refine' Pns.cons ?s1 ?s2); (case s1 => (lsm_bools)); (case s2 => (lsm_bools))) | ((with_reducible refine' Pl.tup ?s1 ?s2); (case s1 => (first | omega | (simp only [List.length_append, List.length_cons, List.length_nil, List.length_map, List.length_set, List.length_take, List.length_drop, List.length_dropLast] <;> omega))); (case s2 => (lsm_bools))) | ((with_reducible refine' Pn.tup ?s1 ?s2); (case s1 => (first | omega | (simp only [List.length_append, List.length_cons, List.length_nil, List.length_map, List.length_set, List.length_take, List.length_drop, List.length_dropLast] <;> omega))); (case s2 => (lsm_bools))))
def t__law_mix : ZS :=
    (zSeq (zAsg (zOp qMod (zCall qInt (zCons (zOp qAdd (zOp qAdd (zOp qMul (zVar 0) (zC (.int 75403))) (zOp qMul (zVar 1) (zC (.int 50021)))) (zC (.int 877))) zNil)) (zC (.int 2147483629))) (zgName 2))
    (zSeq (zAsg (zOp qMod (zCall qInt (zCons (zOp qAdd (zOp qAdd (zOp qMul (zVar 2) (zVar 2)) (zOp qMul (zVar 1) (zC (.int 30011)))) (zOp qDiv (zVar 2) (zC (.int 11)))) zNil)) (zC (.int 2147483587))) (zgName 3))
    (zRet (zOp qMod (zCall qInt (zCons (zOp qAdd (zOp qAdd (zOp qMul (zVar 3) (zVar 3)) (zOp qDiv (zVar 3) (zC (.int 13)))) (zVar 1)) zNil)) (zC (.int 2147483563))))))
def t__law_flow (sp__law_mix : ZC) : ZS :=
    (zSeq (zAsg (zCall qLen (zCons (zVar 0) zNil)) (zgName 1))
    (zSeq (zFor (zSeqI (zSl (zVar 0) zNoPart (zPart (zC (.int 63))))) (zgName 2) (zAsg (zCallF 2 sp__law_mix (zCons (zOp qAdd (zVar 1) (zVar 2)) (zCons (zC (.int 3)) zNil))) (zgName 1)))
    (zRet (zLst (zCons (zSl (zVar 0) zNoPart (zPart (zC (.int 63)))) (zCons (zC (.int 0)) (zCons (zC (.int 0)) (zCons (zC (.int 0)) (zCons (zC (.int 0)) (zCons (zVar 1) zNil))))))))))
def t__law_draw (sp__law_mix : ZC) : ZS :=
    (zSeq (zAsg (zOp qAdd (zOp qIx (zVar 0) (zC (.int 4))) (zC (.int 1))) (zgSub (zVar 0) (zC (.int 4)) qSetL))
    (zSeq (zIfS (zAnd (zTb (zOp (qEq false) (zOp qIx (zVar 0) (zC (.int 3))) (zC (.int 0)))) (zTb (zOp qLt (zOp qIx (zVar 0) (zC (.int 1))) (zCall qLen (zCons (zOp qIx (zVar 0) (zC (.int 0))) zNil))))) (zSeq (zAsg (zCall qAbs (zCons (zCall qInt (zCons (zOp qIx (zOp qIx (zVar 0) (zC (.int 0))) (zOp qIx (zVar 0) (zC (.int 1)))) zNil)) zNil)) (zgName 2))
    (zSeq (zAsg (zOp qAdd (zOp qIx (zVar 0) (zC (.int 1))) (zC (.int 1))) (zgSub (zVar 0) (zC (.int 1)) qSetL))
    (zSeq (zIfS (zTb (zOp qLt (zVar 2) (zOp qPow (zC (.int 10)) (zC (.int 18))))) (zRet (zOp qMod (zCall qInt (zCons (zCallF 2 sp__law_mix (zCons (zVar 2) (zCons (zOp qIx (zVar 0) (zC (.int 4))) zNil))) zNil)) (zVar 1))) zNext)
    (zSeq (zAsg (zVar 2) (zgSub (zVar 0) (zC (.int 2)) qSetL))
    (zAsg (zC (.int 60)) (zgSub (zVar 0) (zC (.int 3)) qSetL)))))) zNext)
    (zSeq (zIfS (zTb (zOp (qEq false) (zOp qIx (zVar 0) (zC (.int 3))) (zC (.int 0)))) (zRet (zOp qMod (zCall qInt (zCons (zCallF 2 sp__law_mix (zCons (zOp qIx (zVar 0) (zC (.int 5))) (zCons (zOp qIx (zVar 0) (zC (.int 4))) zNil))) zNil)) (zVar 1))) zNext)
    (zSeq (zAsg (zOp qMod (zCall qInt (zCons (zOp qIx (zVar 0) (zC (.int 2))) zNil)) (zVar 1)) (zgName 3))
    (zSeq (zAsg (zOp qDiv (zOp qIx (zVar 0) (zC (.int 2))) (zVar 1)) (zgSub (zVar 0) (zC (.int 2)) qSetL))
    (zSeq (zAsg (zOp qMul (zOp qSub (zOp qIx (zVar 0) (zC (.int 3))) (zC (.int 1))) (zCall qInt (zCons (zOp qGt (zOp qIx (zVar 0) (zC (.int 2))) (zC (.int 0))) zNil))) (zgSub (zVar 0) (zC (.int 3)) qSetL))
    (zRet (zVar 3))))))))
def t__law_one (sp__law_draw : ZC) : ZS :=
    (zRet (zOp qIx (zVar 1) (zCallF 2 sp__law_draw (zCons (zVar 0) (zCons (zCall qLen (zCons (zVar 1) zNil)) zNil)))))
def t__law_same (sp__law_same : ZC) : ZS :=
    (zSeq (zIfS (zTru (zCall qIsi (zCons (zVar 1) (zCons (zC (.ty "tuple")) zNil)))) (zSeq (zIfS (zOr (zNot (zTru (zCall qIsi (zCons (zVar 0) (zCons (zC (.ty "tuple")) zNil))))) (zTb (zOp (qEq true) (zCall qLen (zCons (zVar 0) zNil)) (zCall qLen (zCons (zVar 1) zNil))))) (zRet (zC (.bl false))) zNext)
    (zRet (zOp (qEq false) (zCall qLen (zCons (zLc (zRngI (zCons (zCall qLen (zCons (zVar 1) zNil)) zNil)) (zgName 2) (zNot (zTru (zCallF 2 sp__law_same (zCons (zOp qIx (zVar 0) (zVar 2)) (zCons (zOp qIx (zVar 1) (zVar 2)) zNil))))) (zVar 2) [2]) zNil)) (zC (.int 0))))) zNext)
    (zSeq (zIfS (zTb (zOp (qIsN false) (zVar 1) (zC .non))) (zRet (zOp (qIsN false) (zVar 0) (zC .non))) zNext)
    (zSeq (zIfS (zTru (zCall qIsi (zCons (zVar 1) (zCons (zC (.ty "str")) zNil)))) (zRet (zAndV (zCall qIsi (zCons (zVar 0) (zCons (zC (.ty "str")) zNil))) (zOp (qEq false) (zVar 0) (zVar 1)))) zNext)
    (zSeq (zIfS (zTb (zOp (qEq true) (zCall qIsi (zCons (zVar 1) (zCons (zC (.ty "bool")) zNil))) (zCall qIsi (zCons (zVar 0) (zCons (zC (.ty "bool")) zNil))))) (zRet (zC (.bl false))) zNext)
    (zRet (zAndV (zCall qIsi (zCons (zVar 0) (zCons (zC (.ty "int")) zNil))) (zOp (qEq false) (zVar 0) (zVar 1))))))))
abbrev EndK (K : WK) : ZEnds := { nx := fun _ S' => K .non S', rt := K }
@[irreducible] def sp__law_mix : ZC := fun ws S K => ∃ c t, ws = [.int c, .int t] ∧ ∀ r, 0 ≤ r → r < 2147483563 → K (.int r) S
theorem u__law_mix (ws : List W) (S : Store) (K : WK) (h : sp__law_mix ws S K) (hl : ws.length = 2) : t__law_mix (EndK K) (startL 4 ws) S := by
  unfold sp__law_mix at h
  obtain ⟨c, t, rfl, h⟩ := h
  kat_tups
  exact h _ (Int.emod_nonneg _ (by decide)) (Int.emod_lt_of_pos _ (by decide))
theorem c__law_mix {c t : Int} {S : Store} {K : WK} (h : ∀ r, 0 ≤ r → r < 2147483563 → K (.int r) S) : sp__law_mix [.int c, .int t] S K := by unfold sp__law_mix; exact ⟨c, t, rfl, h⟩
def FlowOk (S : Store) (n m : Nat) : Prop := ∃ (cells : List Int) (p r l d seed : Int), S[n]? = some (.lst [.ref m, .int p, .int r, .int l, .int d, .int seed]) ∧ IsLst S m (cells.map W.int) ∧ m ≠ n ∧ 0 ≤ p
theorem flow_set {S : Store} {n m : Nat} {cells : List Int} {p r l d seed p' r' l' d' seed' : Int} (h1 : S[n]? = some (.lst [.ref m, .int p, .int r, .int l, .int d, .int seed])) (h2 : IsLst S m (cells.map W.int)) (h3 : m ≠ n) (h4 : 0 ≤ p') :
    FlowOk (S.set n (.lst [.ref m, .int p', .int r', .int l', .int d', .int seed'])) n m :=
  ⟨cells, p', r', l', d', seed', List.getElem?_set_self (lt_of_get h1), Keep.lst (ms := [n]) (Keep.set _ _ _) (by simpa using h3) h2, h3, h4⟩
@[irreducible] def sp__law_flow : ZC := fun ws S K => ∃ (s : Nat) (ns : List Int), ws = [.ref s] ∧ IsLst S s (ns.map W.int) ∧ ∀ n m S', Ext S S' → FlowOk S' n m → K (.ref n) S'
theorem cut_ints (ns : List Int) (lo hi : Option Int) : cut (ns.map W.int) lo hi = (cut ns lo hi).map W.int := by
  unfold cut; simp [List.map_take, List.map_drop]
theorem u__law_flow (ws : List W) (S : Store) (K : WK) (h : sp__law_flow ws S K) (hl : ws.length = 1) : t__law_flow sp__law_mix (EndK K) (startL 3 ws) S := by
  unfold sp__law_flow at h
  obtain ⟨s, ns, rfl, hs, h⟩ := h
  kat_tups
  rw [cut_ints]
  refine forI (fun i L S1 => ∃ (sd : Int) (x : Option W), L = [some (.ref s), some (.int sd), x] ∧ S1 = S ++ [.lst ((cut ns none (some 63)).map W.int)]) ⟨_, _, rfl, rfl⟩ ?_ ?_ ?_
  · rintro i L S1 ⟨sd, x, rfl, rfl⟩
    ke_read
  · rintro i w L S1 hw ⟨sd, x, rfl, rfl⟩
    rw [List.getElem?_map] at hw
    obtain ⟨c, hc, rfl⟩ := Option.map_eq_some_iff.mp hw
    keq_rows
    refine c__law_mix fun r h1 h2 => ?_
    keq_rows
    exact ⟨_, _, rfl, rfl⟩
  · rintro L S1 ⟨sd, x, rfl, rfl⟩
    have hs1 := Ext.lst (Keep.app [] S [.lst ((cut ns none (some 63)).map W.int)]) hs
    keq_rows
    have e := cut_ints ns none (some 63)
    rw [e]
    refine h _ _ _ (((Keep.app [] _ _).trans (Keep.app [] _ _)).trans (Keep.app [] _ _)) ⟨cut ns none (some 63), 0, 0, 0, 0, sd, (app_get0 _ _).trans rfl, ?_, ?_, Int.le_refl 0⟩
    · rw [List.append_assoc (S ++ _)]; exact getL_app00 _ _ _
    · simp
@[irreducible] def sp__law_draw : ZC := fun ws S K => ∃ n m many, ws = [.ref n, .int many] ∧ FlowOk S n m ∧ 0 < many ∧ many < 18446744073709551616 ∧ ∀ r S', 0 ≤ r → r < many → Keep [n] S S' → FlowOk S' n m → K (.int r) S'
theorem u__law_draw (ws : List W) (S : Store) (K : WK) (h : sp__law_draw ws S K) (hl : ws.length = 2) : t__law_draw sp__law_mix (EndK K) (startL 4 ws) S := by
  unfold sp__law_draw at h
  obtain ⟨n, m, many, rfl, ⟨cells, p, r, l, d, seed, h1, h2, h3, h4⟩, h5, h6, h⟩ := h
  kat_tups
  kbo_bools
  · keq_rows
    kbo_bools
    · keq_rows
      kbo_bools
      · keq_rows
        refine c__law_mix fun r _ _ => ?_
        keq_rows
        exact h _ _ (Int.emod_nonneg _ (by omega)) (Int.emod_lt_of_pos _ h5) (Keep.set _ _ _) (flow_set h1 h2 h3 (by omega))
      · keq_rows
        exact h _ _ (Int.emod_nonneg _ (by omega)) (Int.emod_lt_of_pos _ h5) (Keep.set _ _ _) (flow_set h1 h2 h3 (by omega))
    · keq_rows
      refine c__law_mix fun r _ _ => ?_
      keq_rows
      exact h _ _ (Int.emod_nonneg _ (by omega)) (Int.emod_lt_of_pos _ h5) (Keep.set _ _ _) (flow_set h1 h2 h3 (by omega))
  · keq_rows
    exact h _ _ (Int.emod_nonneg _ (by omega)) (Int.emod_lt_of_pos _ h5) (Keep.set _ _ _) (flow_set h1 h2 h3 (by omega))
theorem c__law_draw {n m : Nat} {many : Int} {S : Store} {K : WK} (h1 : FlowOk S n m) (h2 : 0 < many) (h3 : many < 18446744073709551616) (h : ∀ r S', 0 ≤ r → r < many → Keep [n] S S' → FlowOk S' n m → K (.int r) S') : sp__law_draw [.ref n, .int many] S K := by unfold sp__law_draw; exact ⟨n, m, many, rfl, h1, h2, h3, h⟩
/-- things[_law_draw(flow, len(things))] over a written tuple -/
@[irreducible] def sp__law_one : ZC := fun ws S K => ∃ n m xs, ws = [.ref n, .tup xs] ∧ FlowOk S n m ∧ 0 < xs.length ∧ xs.length < 1000000000 ∧ ∀ x S', x ∈ xs → Keep [n] S S' → FlowOk S' n m → K x S'
theorem u__law_one (ws : List W) (S : Store) (K : WK) (h : sp__law_one ws S K) (hl : ws.length = 2) : t__law_one sp__law_draw (EndK K) (startL 2 ws) S := by
  unfold sp__law_one at h
  obtain ⟨n, m, xs, rfl, h1, h2, h3, h⟩ := h
  kat_tups
  refine c__law_draw h1 (by omega) (by omega) fun r S' a b c d => ?_
  obtain ⟨k, rfl⟩ : ∃ k : Nat, r = (k : Int) := ⟨r.toNat, by omega⟩
  have h4 : k < xs.length := by omega
  have h5 : xs[k]? = some xs[k] := List.getElem?_eq_getElem h4
  keq_rows
  exact h _ _ (List.getElem_mem h4) c d
@[irreducible] def sp__law_same (d : Nat) : ZC := fun ws S K => ∃ x, ws = [x, x] ∧ Pl d x ∧ ∀ S', Ext S S' → K (.bl true) S'
theorem c__law_same {d : Nat} {x : W} {S : Store} {K : WK} (h1 : Pl d x) (h : ∀ S', Ext S S' → K (.bl true) S') : sp__law_same d [x, x] S K := by unfold sp__law_same; exact ⟨x, rfl, h1, h⟩
theorem u__law_same (d : Nat) (sp : ZC) (hs : ∀ (e : Nat), d = e + 1 → sp = sp__law_same e) (ws : List W) (S : Store) (K : WK) (h : sp__law_same d ws S K) (hl : ws.length = 2) : t__law_same sp (EndK K) (startL 3 ws) S := by
  unfold sp__law_same at h
  obtain ⟨x, rfl, hp, h⟩ := h
  cases hp with
  | non => kat_tups; exact h _ (Keep.refl _ _)
  | bl => kat_tups; simpa using h _ (Keep.refl _ _)
  | int => kat_tups; simpa using h _ (Keep.refl _ _)
  | str => kat_tups; simpa using h _ (Keep.refl _ _)
  | @tup d xs hz hp =>
    cases hs _ rfl
    kat_tups
    refine lcF (fun _ => none) (fun _ _ => trivial) (by rw [rangeW_length]; exact s_sz (by omega)) ?_ ?_
    · intro i w S2 Kt Kf hw k hK hK'
      obtain ⟨hi, rfl⟩ := rangeW_inv0 hw
      have e : xs[i]? = some xs[i] := List.getElem?_eq_getElem (by omega)
      keq_rows
      refine c__law_same (hp.get e) fun S' k' => ?_
      keq_rows
      exact hK' _ rfl k'
    · intro S2 k h2
      rw [show ∀ ys : List W, ys.filterMap (fun _ => (none : Option W)) = [] from fun ys => by induction ys with | nil => rfl | cons y ys ih => exact ih] at h2
      keq_rows
      exact h _ k
theorem c__law_sameE {d : Nat} {x y : W} {S : Store} {K : WK} (e : x = y) (h1 : Pl d x) (h : ∀ S', Ext S S' → K (.bl true) S') : sp__law_same d [x, y] S K := e ▸ c__law_same h1 h
theorem c__law_one {n m : Nat} {xs : List W} {S : Store} {K : WK} (h1 : FlowOk S n m) (h2 : 0 < xs.length) (h3 : xs.length < 1000000000) (h : ∀ x S', x ∈ xs → Keep [n] S S' → FlowOk S' n m → K x S') : sp__law_one [.ref n, .tup xs] S K := by unfold sp__law_one; exact ⟨n, m, xs, rfl, h1, h2, h3, h⟩
theorem c__law_flow {s : Nat} {ns : List Int} {S : Store} {K : WK} (h1 : IsLst S s (ns.map W.int)) (h : ∀ n m S', Ext S S' → FlowOk S' n m → K (.ref n) S') : sp__law_flow [.ref s] S K := by unfold sp__law_flow; exact ⟨s, ns, rfl, h1, h⟩
theorem FlowOk.lt {S : Store} {n m : Nat} (h : FlowOk S n m) : n < S.length ∧ m < S.length ∧ m ≠ n := by
  obtain ⟨cells, p, r, l, d, seed, h1, h2, h3, h4⟩ := h
  exact ⟨lt_of_get h1, (isL.mp h2).elim lt_of_get lt_of_get, h3⟩
theorem FlowOk.keep {ms : List Nat} {S S' : Store} {n m : Nat} (h : FlowOk S n m) (k : Keep ms S S') (hn : n ∉ ms) (hm : m ∉ ms) : FlowOk S' n m := by
  obtain ⟨cells, p, r, l, d, seed, h1, h2, h3, h4⟩ := h
  exact ⟨cells, p, r, l, d, seed, k _ _ hn h1, k.lst hm h2, h3, h4⟩
theorem FlowOk.ext {S S' : Store} {n m : Nat} (h : FlowOk S n m) (k : Ext S S') : FlowOk S' n m := h.keep k (by simp) (by simp)
/-- a list of drawn numbers -/
theorem lcDraw {n m : Nat} {many : Int} {its : List W} {G : Store → Prop} {g : ZTG} {tt : ZT} {te : ZE} {vs : List Nat} {L : Loc'} {S1 : Store} {K : WK} (hf : FlowOk S1 n m) (hG : ∀ S, Keep [n] S1 S → G S) (hsz : its.length ≤ sizeLine)
    (turn : ∀ (i : Nat) (w : W) (S2 : Store) (Kt : WK) (Kf : Store → Prop), its[i]? = some w → FlowOk S2 n m → Keep [n] S1 S2 → (∀ y S3, Keep [n] S2 S3 → FlowOk S3 n m → 0 ≤ y → y < many → Kt (.int y) S3) →
      qWipe L vs fun L0 => g w L0 S2 fun L' S3 => tt L' S3 fun b S4 => qIf b (te L' S4 Kt) (Kf S4))
    (done : ∀ (ns : List Int) S2, ns.length = its.length → (∀ y ∈ ns, 0 ≤ y ∧ y < many) → FlowOk S2 n m → Keep [n] S1 S2 → S2[S1.length]? = some (.lst (ns.map W.int)) → K (.ref S1.length) S2) : LcEnd ⟨its, G⟩ g tt te vs L S1 K := by
  obtain ⟨l1, l2, l3⟩ := hf.lt
  refine lcI [n] (fun S => FlowOk S n m) (fun i acc => ∃ ns : List Int, acc = ns.map W.int ∧ ns.length = i ∧ ∀ y ∈ ns, 0 ≤ y ∧ y < many) (by simp; omega) (by simp; omega) (fun S o h _ => ?_) (hf.ext (Keep.app _ _ _)) hG ⟨[], rfl, rfl, by simp⟩ ?_ ?_ ?_
  · obtain ⟨cells, p, r, l, d, seed, h1, h2, h3, h4⟩ := h
    exact ⟨cells, p, r, l, d, seed, by rw [List.getElem?_set_ne (by omega)]; exact h1, by unfold IsLst; rw [getL_set_ne (by omega)]; exact h2, h3, h4⟩
  · rintro i acc hi ⟨ns, rfl, hl, _⟩
    rw [List.length_map]
    omega
  · rintro i acc w S2 Kt Kf hw ⟨ns, rfl, hl, hy⟩ h2 h3 _ hK _
    refine turn i w S2 Kt Kf hw h2 h3 fun y S3 k3 f3 y1 y2 => hK _ _ k3 f3 ⟨ns ++ [y], by simp, by simp [hl], ?_⟩
    intro x hx
    rcases List.mem_append.mp hx with hx | hx
    · exact hy x hx
    · rw [List.mem_singleton.mp hx]; exact ⟨y1, y2⟩
  · rintro acc S2 ⟨ns, rfl, hl, hy⟩ h2 h3 h4
    exact done ns S2 hl hy h2 h3 h4
end FA

set_option maxHeartbeats 2000000
/-! Z12: enumerate over lists and tuples, zip. -/
namespace Z
open PySem PySem.Spec PyProof.Rows L2
open PySem.Sem (wp)
open PySem.AutoSeq1 (wpAny_loadPart')
set_option maxHeartbeats 4000000 in
theorem meetsEnum1 {v : Value} {o : Obj} {Hh : Heap → Prop} (Bg : Begins v o Hh) :
    Meets (Builtin.«enumerate.__new__» ⟨[.type "enumerate", v], []⟩) fun _ Rr s0 => Hh s0.heap ∧ Rr (.ok (.ret (.ref (s0.heap.push o).objs.size)))
      { s0 with heap := (s0.heap.push o).push { cls := .type "enumerate", data := .fields #[.none, .bool false, .ref s0.heap.objs.size, rawInt 0, .none, .none] } } := by
  refine .of_wp fun P0 w0 A0 R0 s0 hh0 => ?_
  obtain ⟨hp0, g0, dd0, tk0, os0⟩ := s0
  obtain ⟨hb0, hr0⟩ := hh0
  have hsubE := sub_enumerate
  have goIt : ∀ {A' : Around} {E : Value → Shared → Prop} {Q : Value → Shared → Prop}, Q (.ref hp0.objs.size) ⟨hp0.push o, g0, dd0, tk0, os0⟩ → wpAny (model P0 w0) A' (pyIter v) Q E ⟨hp0, g0, dd0, tk0, os0⟩ :=
    fun q => Bg.iter P0 w0 _ _ ⟨hp0, g0, dd0, tk0, os0⟩ _ hb0 q
  wp_walk using goIt
  refine wpAny_stack_any fun stk => wpAny_pure ?_
  split
  · rename_i cc _ _ _ _ _
    cases (cc == Value.type "enumerate")
    · wp_walk using goIt
      exact ⟨_, rfl, hr0⟩
    · wp_walk using goIt
      exact ⟨_, rfl, hr0⟩
  · wp_walk using goIt
    exact ⟨_, rfl, hr0⟩
section
variable {prog : Program} {w : World} {Ar : Around} {E : Value → Shared → Prop} {s : Shared}
theorem callEnum1 {v : Value} {o : Obj} {Hh : Heap → Prop} {Q : Value → Shared → Prop} (Bg : Begins v o Hh) (h1 : Hh s.heap)
    (h : ∀ h', IsEnum h' (s.heap.objs.size + 1) s.heap.objs.size 0 .none → h'.get? s.heap.objs.size = some o → (∀ b u, s.heap.get? b = some u → h'.get? b = some u) → Q (.ref (s.heap.objs.size + 1)) { s with heap := h' }) :
    wpAny (model prog w) Ar (call (.type "enumerate") [v]) Q E s := by
  refine callType_new F.called_enumerate (by decide) (F.typeCall_enumerate_1 _) (F.newCall_enumerate_1 _) (fun ob => F.args_object_init_2 ob _) F.entry_enumerate_new (meetsEnum1 Bg) ⟨h1, ?_⟩
  have hz1 : (s.heap.push o).objs.size = s.heap.objs.size + 1 := Heap.size_push ..
  rw [hz1]
  have hE : IsEnum ((s.heap.push o).push { cls := .type "enumerate", data := .fields #[.none, .bool false, .ref s.heap.objs.size, rawInt 0, .none, .none] }) (s.heap.objs.size + 1) s.heap.objs.size 0 .none := by
    have q := Heap.get?_push_size (s.heap.push o) (o := { cls := .type "enumerate", data := .fields #[.none, .bool false, .ref s.heap.objs.size, rawInt 0, .none, .none] }) rfl
    rwa [hz1] at q
  exact ⟨⟨_, hE, rfl⟩, h _ hE (Heap.get?_push_of_some _ (Heap.get?_push_size _ Bg.free)) fun b u x => Heap.get?_push_of_some _ (Heap.get?_push_of_some _ x)⟩
end
/-- a tuple's items, each in a new pair with its number -/
def IteT (K : PySem.W.Frag) (a : Addr) : It :=
  ⟨fun i H => ∃ (xs : List V) (x : V), SqT K H a xs ∧ xs[i]? = some x, fun i H v H' => ∃ T x, v = .ref T ∧ H T = none ∧ H' = upd H T (.tup [.int (i : Nat), x]) ∧ ∀ xs, SqT K H a xs → xs[i]? = some x, fun i H => ∃ xs : List V, SqT K H a xs ∧ xs.length ≤ i⟩
theorem turn_enumT {P : Program} {w : World} {K : PySem.W.Frag} {elts : List Expr} {kk : Nat} {tpos : Pos} (a e it : Addr) (hai : a ≠ it) (hae : a ≠ e) :
    Turn P w K (.Tuple elts kk tpos) (IteT K a) [e, it] e (fun i h => (∃ old, IsEnum h e it ((i : Nat) : Int) old) ∧ h.IsTupleIter it a i ∧ e ≠ it) where
  mem := by simp
  obj := by
    rintro i h ⟨⟨old, he⟩, ⟨o, ho, hc, hd⟩, _⟩ b hb
    rcases (by simpa using hb : b = e ∨ b = it) with rfl | rfl
    · exact ⟨_, he, fun v q => nomatch q⟩
    · exact ⟨o, ho, fun v q => by rw [hd] at q; cases q⟩
  keep := by
    rintro i h h' ⟨⟨old, he⟩, hi, hne⟩ k
    exact ⟨⟨old, k e (by simp) _ he⟩, hi.at fun o q => k it (by simp) o q, hne⟩
  item := by
    rintro X rfl rfl rfl hc i pins s σ H E I hf ⟨⟨old, he⟩, hit, hne⟩ ⟨xs, x, hq, hx⟩
    obtain ⟨its, rv, p, hz⟩ := I.tuple hq
    obtain ⟨u, hu, ru⟩ := rv.get hx
    have hel : e < s.heap.objs.size := Heap.lt_size he
    have hil : it < s.heap.objs.size := by obtain ⟨_, q, _⟩ := hit; exact Heap.lt_size q
    have hh0 : X.A.in1.handled = none := I.ok.hd hc
    have pT : s.heap.IsTuple a its.toArray := p
    have hlt : i < its.toArray.size := by
      have := (List.getElem?_eq_some_iff.mp hu).1
      simpa using this
    refine wpAny_pyNext_enum_itemC (Draws.tuple hh0 it a hai its.toArray) he ⟨hit, pT⟩ hlt hne (by simp; exact ⟨hne, fun z => hae z.symm⟩) fun x' h' tk hx' ho hst' hT hsz hk => ?_
    obtain ⟨hit', _⟩ := hst'
    have ex : x' = u := by
      have h9 : its[i]? = some x' := by simpa using hx'
      exact Option.some.inj (h9.symm.trans hu)
    subst ex
    refine ⟨_, rfl, wpAny_letOwnedTupleGo_enum (s := { s with heap := h', toks := tk + 1 }) ho fun h'' he' sb => ?_⟩
    have hT2 : h''.get? s.heap.objs.size = some { cls := .type "tuple", data := .seq #[.int i tk, x'] } := (sb.2 _ (Nat.ne_of_gt hel)).trans hT
    have nob : ObjOk X.prog X.w (upd H s.heap.objs.size (.tup [.int (i : Nat), x])) h'' s.heap.objs.size (.tup [.int (i : Nat), x]) :=
      ⟨by show 2 ≤ sizeLine; decide, [.int i tk, x'], .cons ⟨_, rfl⟩ (.cons ru .nil), ⟨_, hT2, rfl, _, rfl⟩⟩
    have I1 : Inv X pins σ (upd H s.heap.objs.size (.tup [.int (i : Nat), x])) { s with heap := h'', toks := tk + 1 } :=
      I.turnedNew (ch := [e, it]) (fun b ob hb q => (sb.2 b fun z => hb (by simp [z])).trans (hk b ob (fun z => hb (by simp [z])) (fun z => hb (by simp [z])) q)) hf (Nat.le_refl _) nob
    refine ⟨.ref s.heap.objs.size, _, I1, rfl, ⟨_, x, rfl, I.hok.fresh (Nat.le_refl _), rfl, fun ys hy => by rw [I.tuple_inj hy hq]; exact hx⟩, ⟨⟨x', ?_⟩, hit'.at fun o q => (sb.2 it (Ne.symm hne)).trans q, hne⟩, fun b hb => ?_⟩
    · rw [Int.natCast_add]
      exact he'
    · have hlb : b < s.heap.objs.size := by
        rcases (by simpa using hb : b = e ∨ b = it) with rfl | rfl
        · exact hel
        · exact hil
      rw [upd_ne (Nat.ne_of_lt hlb)]
      exact (hf b hb).1
  done := by
    rintro X rfl rfl rfl hc i pins s σ H E I hf ⟨⟨old, he⟩, hit, hne⟩ ⟨xs, hq, hx⟩
    obtain ⟨its, rv, p, hz⟩ := I.tuple hq
    have pT : s.heap.IsTuple a its.toArray := p
    have hh0 : X.A.in1.handled = none := I.ok.hd hc
    have hl := rv.length
    have D : Draws X.prog X.w X.A.in1 it [it, a] i (fun _ _ => True) (fun j h => j = i ∧ h.IsTupleIter it a i ∧ h.IsTuple a its.toArray) :=
      { live := fun _ _ st => let ⟨o, ho, _⟩ := st.2.1; ⟨o, ho⟩
        frame := fun _ _ _ st hk => ⟨st.1, st.2.1.at fun o q => hk it (by simp) o q, st.2.2.at fun o q => hk a (by simp) o q⟩
        item := fun j s Q E hj st _ => absurd st.1 (Nat.ne_of_lt hj)
        done := fun s Q E st hE => wpAny_nextOf_tuple_end hh0 st.2.1 st.2.2 (by simp; omega) hE }
    refine wpAny_pyNext_enum_endD D he ⟨rfl, hit, pT⟩ fun h' eb => ?_
    obtain ⟨f0, f1, f2, f3, f4, f5⟩ := hf it (by simp)
    exact ⟨rfl, I.turned (t' := s.toks) (fun b o hb q => eb b o hb q) f0 f1 f3 f4 f5⟩
  self := fun Ar i s Q E st h => let ⟨⟨_, he⟩, _⟩ := st; wpAny_pyIter_enum he h
def iEnumT (K : PySem.W.Frag) (ta : TA) : TI := fun σ H R => ta σ H fun vs H1 => ∃ a xs, vs = [.ref a] ∧ ((SqL K H1 a xs ∧ R (Ite K a) H1) ∨ (SqT K H1 a xs ∧ R (IteT K a) H1))
theorem pi_enumT {X : Cx} {e : Expr} {ta : TA} {p pos tpos : Pos} {elts : List Expr} {kk : Nat} (hg : Gl X "enumerate") (hm : X.mg "enumerate" = none) (ha : PA X [e] ta) (hs : starEach [e] X.env = [(false, eval e X.env)] := by rfl) :
    PI X (.Tuple elts kk tpos) (.Call (.Name "enumerate" p) [e] [] pos) (iEnumT X.K ta) := by
  refine ⟨fun pins s σ H R I h => ?_⟩
  refine Call_ (ld_blt I hg hm PyProof.Rows.boot_enumerate (PyProof.Rows.callWith_type1 (thn (ha.run pos pins s σ H _ I h) fun us s1 ⟨vs, H1, I1, r1, a, xs, ex, q⟩ => ?_) hs rfl))
  subst ex
  cases r1 with
  | cons r rr =>
    cases rr
    cases r
    rcases q with ⟨hq, q⟩ | ⟨hq, q⟩
    · obtain ⟨its, rv, p', hz⟩ := I1.list hq
      refine callEnum1 (begins_list a its.toArray) p'.isList fun h' he hit hk => wpAny_pyIter_enum he ?_
      have I2 : Inv X pins σ H1 { s1 with heap := h' } := I1.kept (t' := s1.toks) hk
      refine ⟨s1.heap.objs.size + 1, [s1.heap.objs.size + 1, s1.heap.objs.size], _, _, H1, rfl, I2, turn_enum a (s1.heap.objs.size + 1) s1.heap.objs.size, ⟨⟨.none, he⟩, ⟨_, hit, rfl, rfl⟩, Nat.succ_ne_self _⟩, fun b hb => ?_, q⟩
      have hle : s1.heap.objs.size ≤ b := by
        rcases (by simpa using hb : b = s1.heap.objs.size + 1 ∨ b = s1.heap.objs.size) with z | z
        · rw [z]; exact Nat.le_succ _
        · rw [z]; exact Nat.le_refl _
      exact I1.fpOk hle (I1.hok.fresh hle)
    · obtain ⟨its, rv, p', hz⟩ := I1.tuple hq
      have pT : s1.heap.IsTuple a its.toArray := p'
      have hal : a < s1.heap.objs.size := by obtain ⟨_, q9, _⟩ := pT; exact Heap.lt_size q9
      refine callEnum1 (begins_tuple a its.toArray) pT fun h' he hit hk => wpAny_pyIter_enum he ?_
      have I2 : Inv X pins σ H1 { s1 with heap := h' } := I1.kept (t' := s1.toks) hk
      refine ⟨s1.heap.objs.size + 1, [s1.heap.objs.size + 1, s1.heap.objs.size], _, _, H1, rfl, I2, turn_enumT a (s1.heap.objs.size + 1) s1.heap.objs.size (Nat.ne_of_lt hal) (Nat.ne_of_lt (Nat.lt_succ_of_lt hal)), ⟨⟨.none, he⟩, ⟨_, hit, rfl, rfl⟩, Nat.succ_ne_self _⟩, fun b hb => ?_, q⟩
      have hle : s1.heap.objs.size ≤ b := by
        rcases (by simpa using hb : b = s1.heap.objs.size + 1 ∨ b = s1.heap.objs.size) with z | z
        · rw [z]; exact Nat.le_succ _
        · rw [z]; exact Nat.le_refl _
      exact I1.fpOk hle (I1.hok.fresh hle)
/-- the items with their numbers -/
def enumW (xs : List W) : List W := xs.mapIdx fun i w => .tup [.int (i : Nat), w]
theorem enumW_length (xs : List W) : (enumW xs).length = xs.length := by simp [enumW]
theorem enumW_get {xs : List W} {i : Nat} {w : W} : (enumW xs)[i]? = some w ↔ ∃ x, xs[i]? = some x ∧ w = .tup [.int (i : Nat), x] := by
  unfold enumW
  rw [List.getElem?_mapIdx, Option.map_eq_some_iff]
  constructor <;> (rintro ⟨x, h1, h2⟩; exact ⟨x, h1, h2.symm⟩)
section
variable {X : Cx} {TB : List Addr} {e : Expr} {te : ZE} {pos p tpos : Pos} {elts : List Expr} {kk : Nat}
theorem wk_enumT {K : PySem.W.Frag} {A : List Addr} {H : Hp} {xs : List W} {vs : List V} {a : Addr} (h : TupAt K H a vs) (r : Reps K A H xs vs) : Wk K TB A H ⟨enumW xs, fun _ => True⟩ (IteT K a) := by
  refine ⟨fun i A' S' H' hi ea eh s _ => ?_, fun A' S' H' ea eh s _ => ⟨vs, (h.mono eh).sq, by rw [enumW_length]; exact Nat.le_of_eq r.length.symm⟩, fun i A' S' H' x H'' hi ea eh s _ y => ?_⟩
  · rw [enumW_length] at hi
    have hi' : i < vs.length := by rw [← r.length]; exact hi
    exact ⟨vs, vs[i], (h.mono eh).sq, List.getElem?_eq_getElem hi'⟩
  · obtain ⟨T, x1, rfl, nT, rfl, y⟩ := y
    have e1 := y vs (h.mono eh).sq
    obtain ⟨w, e2, e3⟩ := r.get' e1
    exact ⟨.new nT, s.laid nT, _, enumW_get.mpr ⟨w, e2, rfl⟩, .tup (.inl upd_same) (.cons (.int _) (.cons (e3.mono ea (eh.trans (.new nT))) .nil))⟩
theorem wk_enumL {K : PySem.W.Frag} {A : List Addr} {H : Hp} {xs : List W} {a : Addr} {n : Nat} (ha : A[n]? = some a) : Wk K TB A H ⟨enumW xs, fun S' => IsLst S' n xs⟩ (Ite K a) := by
  refine ⟨fun i A' S' H' hi ea eh s g => ?_, fun A' S' H' ea eh s g => ?_, fun i A' S' H' x H'' hi ea eh s g y => ?_⟩
  · obtain ⟨vs, q, r⟩ := s.seq (ea _ _ ha) g
    rw [enumW_length] at hi
    have hi' : i < vs.length := by rw [← r.length]; exact hi
    exact ⟨vs, vs[i], q, List.getElem?_eq_getElem hi'⟩
  · obtain ⟨vs, q, r⟩ := s.seq (ea _ _ ha) g
    exact ⟨vs, q, by rw [enumW_length]; exact Nat.le_of_eq r.length.symm⟩
  · obtain ⟨T, x1, rfl, nT, rfl, y⟩ := y
    obtain ⟨vs, q, r⟩ := s.seq (ea _ _ ha) g
    have e1 := y vs q
    obtain ⟨w, e2, e3⟩ := r.get' e1
    exact ⟨.new nT, s.laid nT, _, enumW_get.mpr ⟨w, e2, rfl⟩, .tup (.inl upd_same) (.cons (.int _) (.cons (e3.mono (.refl _) (.new nT)) .nil))⟩
@[irreducible] def qEnumI (K : ZIt → Store → Prop) : List W → Store → Prop := fun ws S1 => Bx ((∃ xs, ws = [.tup xs] ∧ K ⟨enumW xs, fun _ => True⟩ S1) ∨ ∃ n xs, ws = [.ref n] ∧ IsLst S1 n xs ∧ K ⟨enumW xs, fun S' => IsLst S' n xs⟩ S1)
def zEnumI (ts : ZA) : ZTI := fun L S K => ts L S (qEnumI K)
theorem zi_enum {ts : ZA} (hg : Gl X "enumerate") (hm : X.mg "enumerate" = none) (ha : ZPA TB X [e] ts) (hs : starEach [e] X.env = [(false, eval e X.env)] := by rfl) : ZPI TB X (.Tuple elts kk tpos) (.Call (.Name "enumerate" p) [e] [] pos) (zEnumI ts) :=
  ⟨(pi_enumT hg hm ha.pa hs).conv fun σ H R ⟨L, S, A, Kc, sk, lk, h, hR⟩ => ⟨L, S, A, _, sk, lk, h, fun vs H1 ⟨A1, S1, ws, ea, eh, s1, r, h0⟩ => by
    unfold qEnumI at h0
    rcases h0.ok with ⟨xs, rfl, k⟩ | ⟨n, xs, rfl, hl, k⟩
    · cases r with
      | cons r1 r =>
        cases r
        cases r1 with
        | tup h1 q1 => exact ⟨_, _, rfl, .inr ⟨h1.sq, hR _ S1 A1 H1 _ ea eh s1 (wk_enumT h1 q1) k⟩⟩
    · cases r with
      | cons r1 r =>
        cases r
        cases r1 with
        | ref h1 =>
          obtain ⟨vs, hq, q1⟩ := s1.seq h1 hl
          exact ⟨_, _, rfl, .inl ⟨hq, hR _ S1 A1 H1 _ ea eh s1 (wk_enumL h1) k⟩⟩⟩⟩
theorem s_enumI_tup {KI : ZIt → Store → Prop} {xs : List W} {S : Store} (h : KI ⟨enumW xs, fun _ => True⟩ S) : qEnumI KI [.tup xs] S := by unfold qEnumI; exact ⟨.inl ⟨xs, rfl, h⟩⟩
theorem s_enumI_ref {KI : ZIt → Store → Prop} {n : Nat} {xs : List W} {S : Store} (e : IsLst S n xs) (h : KI ⟨enumW xs, fun S' => IsLst S' n xs⟩ S) : qEnumI KI [.ref n] S := by unfold qEnumI; exact ⟨.inr ⟨n, xs, rfl, e, h⟩⟩
end
end Z

set_option maxHeartbeats 4000000
/-! Z13: the helpers that twenty laws share: the reel of numbers, and the likeness of two values. -/
namespace FC
open PySem PySem.Spec PyProof.Rows L2 Z
local macro_rules | `(tactic| tb_start) => `(tactic| first | assumption | exact True.intro | exact ⟨_, _, rfl, by ke_read⟩ | ((with_reducible refine' MulOk.r ?s1 ?s2); (case s1 => (decide)); (case s2 => (decide))) | ((with_reducible refine' DivOk.any ?s1); (case s1 => (assumption))) | ((with_reducible refine' DivOk.small ?s1 ?s2); (case s1 => (decide)); (case s2 => (decide))) | ((with_reducible refine' MulOk.r ?s1 ?s2); (case s1 => (omega)); (case s2 => (omega))) | ((with_reducible refine' MulOk.l ?s1 ?s2); (case s1 => (omega)); (case s2 => (omega))) | ((with_reducible refine' DivOk.small ?s1 ?s2); (case s1 => (omega)); (case s2 => (omega))) | ((with_reducible refine' PowOk.lit ?s1 ?s2 ?s3); (case s1 => (decide)); (case s2 => (decide)); (case s3 => (decide))) | omega | ((with_reducible refine' s_sz ?s1); (case s1 => (first | omega | (simp only [List.length_append, List.length_cons, List.length_nil, List.length_map, List.length_set, List.length_take, List.length_drop, List.length_dropLast] <;> omega)))) | ((with_reducible refine' s_szl ?s1); (case s1 => (first | omega | (simp only [List.length_append, List.length_cons, List.length_nil, List.length_map, List.length_set, List.length_take, List.length_drop, List.length_dropLast] <;> omega)))) | ke_read | ked_read | decide)
local macro_rules | `(tactic| ke_reads) => `(tactic| first | assumption | exact Ne.symm (by assumption) | omega | (simp only [List.length_append, List.length_cons, List.length_nil, List.length_set] at * <;> omega))
local macro_rules | `(tactic| ked_reads) => `(tactic| first | assumption | ((with_reducible refine' lt_of_get ?s1); (case s1 => (ked_read))))
local macro_rules | `(tactic| ked_read) => `(tactic| first | assumption | ((with_reducible refine' List.getElem?_set_self ?s1); (case s1 => (ked_reads))) | ((with_reducible refine' set_ne' ?s1 ?s2); (case s1 => (ke_reads)); (case s2 => (ked_read))) | exact (app_get0 _ _).trans rfl | exact (app_get _ _ _).trans rfl | ((with_reducible refine' app_l ?s1); (case s1 => (ked_read))))
local macro_rules | `(tactic| ke_read) => `(tactic| first | assumption | (apply getL_of; assumption) | ((with_reducible refine' getL_set_self ?s1); (case s1 => (ked_reads))) | exact getL_app00 _ _ _ | exact getL_app1 _ _ _ _ | ((with_reducible refine' getL_set_ne' ?s1 ?s2); (case s1 => (ke_reads)); (case s2 => (ke_read))) | ((with_reducible refine' getL_app_l ?s1); (case s1 => (ke_read))) | exact (getL_app _ _ _).trans rfl)
local macro_rules | `(tactic| kqd_all) => `(tactic| first | assumption | (rw [atI_m1]; first | with_unfolding_all rfl | assumption) | (rw [atI_lit]; first | with_unfolding_all rfl | assumption) | (rw [atI_cast]; assumption) | exact atI_ints (by omega) (by simp only [List.length_map] at *; omega))
local macro_rules | `(tactic| kct_strs) => `(tactic| first | assumption | (rw [ixN_lit, if_pos (by simp)]; done))
local macro_rules | `(tactic| kp_flats) => `(tactic| first | with_reducible refine q_let0 ?_ | with_reducible refine q_let1 ?_ | with_reducible refine q_let2 ?_ | with_reducible refine q_let3 ?_ | with_reducible refine q_let4 ?_ | with_reducible refine q_let5 ?_ | with_reducible refine q_let6 ?_ | with_reducible refine q_let7 ?_ | with_reducible refine q_let8 ?_ | with_reducible refine q_let9 ?_ | with_reducible refine q_let10 ?_ | with_reducible refine q_let11 ?_ | with_reducible refine q_let12 ?_ | with_reducible refine q_let13 ?_ | with_reducible refine q_let14 ?_ | with_reducible refine q_let15 ?_ | with_reducible refine q_let16 ?_ | with_reducible refine q_let17 ?_ | with_reducible refine q_let18 ?_ | with_reducible refine q_let19 ?_ | with_reducible refine q_let20 ?_ | with_reducible refine q_let21 ?_ | with_reducible refine q_let22 ?_ | with_reducible refine q_let23 ?_ | with_reducible refine q_let24 ?_ | with_reducible refine q_let25 ?_ | with_reducible refine q_let26 ?_ | with_reducible refine q_let27 ?_ | with_reducible refine q_let28 ?_ | with_reducible refine q_let29 ?_ | with_reducible refine q_let30 ?_ | with_reducible refine q_let31 ?_ | with_reducible refine q_let32 ?_ | with_reducible refine q_let33 ?_ | with_reducible refine q_let34 ?_ | with_reducible refine q_let35 ?_ | with_reducible refine q_let36 ?_ | with_reducible refine q_let37 ?_ | with_reducible refine q_let38 ?_ | with_reducible refine q_let39 ?_)
local macro_rules | `(tactic| tb_rel) => `(tactic| first | ((with_reducible show qLet _ _ _ _); kp_flats) | ((with_reducible refine' i_dt ?s1 ?_); (case s1 => (first | assumption | rfl))) | ((with_reducible refine' i_df ?s1 ?_); (case s1 => (assumption))) | ((with_reducible refine' i_nf ?s1 ?_); (case s1 => (first | assumption | rfl))) | ((with_reducible refine' i_nt ?s1 ?_); (case s1 => (assumption))) | ((with_reducible refine' i_t ?s1 ?_); (case s1 => (with_unfolding_all rfl))) | ((with_reducible refine' i_f ?s1 ?_); (case s1 => (with_unfolding_all rfl))) | ((with_reducible refine' q_ix_tup ?s1 ?_); (case s1 => (kqd_all))) | ((with_reducible refine' q_ix_ref ?s1 ?s2 ?_); (case s1 => (ke_read)); (case s2 => (kqd_all))) | ((with_reducible refine' q_eq_int ?_)) | ((with_reducible refine' q_ne_int ?_)) | ((with_reducible refine' q_eq_str ?s1 ?s2 ?_); (case s1 => (first | assumption | decide +kernel)); (case s2 => (first | assumption | decide +kernel))) | ((with_reducible refine' q_ne_str ?s1 ?s2 ?_); (case s1 => (first | assumption | decide +kernel)); (case s2 => (first | assumption | decide +kernel))) | ((with_reducible refine' q_len_tup ?_)) | ((with_reducible refine' q_len_ref ?s1 ?_); (case s1 => (ke_read))) | ((with_reducible refine' s_isml ?s1 ?_); (case s1 => (ke_read))) | ((with_reducible refine' q_append2 ?s1 ?s2 ?_); (case s1 => (ked_reads)); (case s2 => (tb_start))) | ((with_reducible refine' q_append0 ?s1 ?_); (case s1 => (tb_start))) | ((with_reducible refine' q_append1 ?s1 ?_); (case s1 => (tb_start))) | ((with_reducible refine' q_append ?s1 ?s2 ?_); (case s1 => (ked_read)); (case s2 => (tb_start))) | ((with_reducible refine' q_cat ?s1 ?s2 ?s3 ?_); (case s1 => (ked_read)); (case s2 => (ked_read)); (case s3 => (tb_start))) | ((with_reducible refine' q_pop0 ?s1 ?_); (case s1 => (ked_read))) | ((with_reducible refine' q_setL2 ?s1 ?s2 ?_); (case s1 => (ked_reads)); (case s2 => (kct_strs))) | ((with_reducible refine' q_setL ?s1 ?s2 ?_); (case s1 => (ked_read)); (case s2 => (kct_strs))) | ((with_reducible refine' q_tup_tup ?_)) | ((with_reducible refine' q_tup_ref ?s1 ?_); (case s1 => (ke_read))) | ((with_reducible refine' q_list_tup ?_)) | ((with_reducible refine' q_list_ref ?s1 ?_); (case s1 => (ke_read))) | ((with_reducible refine' q_sl_tupE ?s1 ?_); (case s1 => (assumption))) | ((with_reducible refine' q_sl_refE ?s1 ?s2 ?_); (case s1 => (ke_read)); (case s2 => (assumption))) | ((with_reducible refine' q_sl_tup ?_)) | ((with_reducible refine' q_sl_ref ?s1 ?_); (case s1 => (ke_read))) | ((with_reducible refine' s_enumI_tup ?_)) | ((with_reducible refine' s_enumI_ref ?s1 ?_); (case s1 => (ke_read))) | ((with_reducible refine' s_seqI_tup ?_)) | ((with_reducible refine' s_seqI_ref ?s1 ?_); (case s1 => (ke_read))) | ((with_reducible refine' q_eq_pn (d := 8) (e := 8) ?s1 ?s2 ?s3 ?s4 ?_); (case s1 => (lsm_bools)); (case s2 => (lsm_bools)); (case s3 => (first | decide | omega)); (case s4 => (first | decide | omega))) | ((with_reducible refine' q_ne_pn (d := 8) (e := 8) ?s1 ?s2 ?s3 ?s4 ?_); (case s1 => (lsm_bools)); (case s2 => (lsm_bools)); (case s3 => (first | decide | omega)); (case s4 => (first | decide | omega))) | ((with_reducible refine' q_eq_lpn (d := 8) (e := 8) ?s1 ?s2 ?s3 ?s4 ?s5 ?s6 ?_); (case s1 => (ke_read)); (case s2 => (ke_read)); (case s3 => (lsm_bools)); (case s4 => (lsm_bools)); (case s5 => (first | decide | omega)); (case s6 => (first | decide | omega))) | ((with_reducible refine' q_ne_lpn (d := 8) (e := 8) ?s1 ?s2 ?s3 ?s4 ?s5 ?s6 ?_); (case s1 => (ke_read)); (case s2 => (ke_read)); (case s3 => (lsm_bools)); (case s4 => (lsm_bools)); (case s5 => (first | decide | omega)); (case s6 => (first | decide | omega))) | ((with_reducible refine' q_is_non ?_)) | ((with_reducible refine' q_isnot_non ?_)) | ((with_reducible refine' q_eq_bl ?_)) | ((with_reducible refine' q_ne_bl ?_)) | ((with_reducible refine' q_isi ?s1 ?s2 ?_); (case s1 => (with_unfolding_all rfl)); (case s2 => (with_unfolding_all rfl))) | ((with_reducible refine' q_in_l (d := 8) (e := 8) ?s1 ?s2 ?s3 ?s4 ?s5 ?_); (case s1 => (ke_read)); (case s2 => (lsm_bools)); (case s3 => (lsm_bools)); (case s4 => (first | decide | omega)); (case s5 => (first | decide | omega))) | ((with_reducible refine' q_in_t (d := 8) (e := 8) ?s1 ?s2 ?s3 ?s4 ?_); (case s1 => (lsm_bools)); (case s2 => (lsm_bools)); (case s3 => (first | decide | omega)); (case s4 => (first | decide | omega))) | ((with_reducible refine' q_notin_l (d := 8) (e := 8) ?s1 ?s2 ?s3 ?s4 ?s5 ?_); (case s1 => (ke_read)); (case s2 => (lsm_bools)); (case s3 => (lsm_bools)); (case s4 => (first | decide | omega)); (case s5 => (first | decide | omega))) | ((with_reducible refine' q_notin_t (d := 8) (e := 8) ?s1 ?s2 ?s3 ?s4 ?_); (case s1 => (lsm_bools)); (case s2 => (lsm_bools)); (case s3 => (first | decide | omega)); (case s4 => (first | decide | omega))) | ((with_reducible refine' q_push0 ?s1 ?_); (case s1 => (tb_start))) | ((with_reducible refine' q_push ?s1 ?s2 ?_); (case s1 => (ked_read)); (case s2 => (tb_start))) | ((with_reducible refine' And.intro ?s1 ?_); (case s1 => (tb_start))))
local macro_rules | `(tactic| kbo_bools) => `(tactic| first | with_reducible refine i_d (fun _ => ?_) (fun _ => ?_) | with_reducible refine i_n (fun _ => ?_) (fun _ => ?_))
local macro_rules | `(tactic| keq_rows) => `(tactic| ((conv => whnf); repeat (tb_rel; (conv => whnf))))
local macro_rules | `(tactic| k_upd) => `(tactic| (keq_rows; try (kbo_bools <;> k_upd)))
local macro_rules | `(tactic| kat_tups) => `(tactic| (simp only [startL, List.map_cons, List.map_nil, List.length_cons, List.length_nil, Nat.zero_add, Nat.reduceAdd, Nat.reduceSub, List.reduceReplicate, List.cons_append, List.nil_append]; keq_rows))
local macro_rules | `(tactic| k_updF) => `(tactic| first | assumption | exact Keep.refl _ _ | exact Keep.app _ _ _ | ((with_reducible refine' Keep.app_r ?s1); (case s1 => (k_updF))) | ((with_reducible refine' Keep.set_in ?s1 ?s2); (case s1 => ((simp only [List.mem_cons, true_or, or_true]))); (case s2 => (k_updF))) | ((with_reducible refine' Keep.set_new ?s1 ?s2); (case s1 => (first | omega | (simp only [List.length_append, List.length_cons, List.length_nil, List.length_set] at * <;> omega))); (case s2 => (k_updF))) | exact Ext.keep (by assumption) | ((with_reducible refine' Keep.trans ?a (by assumption)); (case a => (k_updF))) | ((with_reducible refine' Keep.trans ?a (Ext.keep (by assumption))); (case a => (k_updF))))
local macro_rules | `(tactic| lsm_bools) => `(tactic| first | assumption | exact Pl.int _ _ | exact Pn.int _ _ | ((with_reducible refine' Pl.str _ _ ?s1); (case s1 => (first | assumption | decide +kernel))) | ((with_reducible refine' Pn.str _ _ ?s1); (case s1 => (first | assumption | decide +kernel))) | exact Pn.non _ | exact Pl.non _ | exact Pl.bl _ _ | exact Pns.nil _ | exact Pls.nil _ | ((with_reducible refine' Pls.cons ?s1 ?s2); (case s1 => (lsm_bools)); (case s2 => (lsm_bools))) | ((with_reducible refine' Pns.cons ?s1 ?s2); (case s1 => (lsm_bools)); (case s2 => (lsm_bools))) | ((with_reducible refine' Pl.tup ?s1 ?s2); (case s1 => (first | omega | (simp only [List.length_append, List.length_cons, List.length_nil, List.length_map, List.length_set, List.length_take, List.length_drop, List.length_dropLast] <;> omega))); (case s2 => (lsm_bools))) | ((with_reducible refine' Pn.tup ?s1 ?s2); (case s1 => (first | omega | (simp only [List.length_append, List.length_cons, List.length_nil, List.length_map, List.length_set, List.length_take, List.length_drop, List.length_dropLast] <;> omega))); (case s2 => (lsm_bools))))
def t__law_reel : ZS :=
    (zSeq (zAsg (zLst zNil) (zgName 1))
    (zSeq (zAsg (zOp qAdd (zC (.int 7919)) (zCall qLen (zCons (zVar 0) zNil))) (zgName 2))
    (zSeq (zFor (zSeqI (zVar 0)) (zgName 3) (zSeq (zAsg (zOp qMod (zCall qInt (zCons (zOp qAdd (zOp qAdd (zOp qMul (zVar 2) (zC (.int 16807))) (zOp qMod (zCall qInt (zCons (zVar 3) zNil)) (zC (.int 2147483629)))) (zC (.int 13))) zNil)) (zC (.int 2147483647))) (zgName 2))
    (zIfS (zTb (zOp qGe (zCall qAbs (zCons (zCall qInt (zCons (zVar 3) zNil)) zNil)) (zOp qPow (zC (.int 10)) (zC (.int 18))))) (zDrop (zMl qAppend (zVar 1) (zCons (zCall qAbs (zCons (zCall qInt (zCons (zVar 3) zNil)) zNil)) zNil))) zNext)))
    (zRet (zLst (zCons (zVar 1) (zCons (zC (.int 0)) (zCons (zC (.int 0)) (zCons (zVar 2) zNil)))))))))
def t__law_take : ZS :=
    (zSeq (zIfS (zAnd (zTb (zOp (qEq false) (zOp qIx (zVar 0) (zC (.int 2))) (zC (.int 0)))) (zTb (zOp qGt (zCall qLen (zCons (zOp qIx (zVar 0) (zC (.int 0))) zNil)) (zC (.int 0))))) (zSeq (zAsg (zMl qPop (zOp qIx (zVar 0) (zC (.int 0))) (zCons (zC (.int 0)) zNil)) (zgSub (zVar 0) (zC (.int 1)) qSetL))
    (zAsg (zC (.int 60)) (zgSub (zVar 0) (zC (.int 2)) qSetL))) zNext)
    (zSeq (zIfS (zTb (zOp qGt (zOp qIx (zVar 0) (zC (.int 2))) (zC (.int 0)))) (zSeq (zAsg (zOp qMod (zCall qInt (zCons (zOp qIx (zVar 0) (zC (.int 1))) zNil)) (zVar 1)) (zgName 2))
    (zSeq (zAsg (zOp qDiv (zOp qIx (zVar 0) (zC (.int 1))) (zVar 1)) (zgSub (zVar 0) (zC (.int 1)) qSetL))
    (zSeq (zAsg (zOp qMul (zOp qSub (zOp qIx (zVar 0) (zC (.int 2))) (zC (.int 1))) (zCall qInt (zCons (zOp qGt (zOp qIx (zVar 0) (zC (.int 1))) (zC (.int 0))) zNil))) (zgSub (zVar 0) (zC (.int 2)) qSetL))
    (zRet (zVar 2))))) zNext)
    (zSeq (zAsg (zOp qMod (zCall qInt (zCons (zOp qAdd (zOp qMul (zOp qIx (zVar 0) (zC (.int 3))) (zC (.int 48271))) (zC (.int 11))) zNil)) (zC (.int 2147483647))) (zgSub (zVar 0) (zC (.int 3)) qSetL))
    (zSeq (zAsg (zOp qMod (zCall qInt (zCons (zOp qAdd (zOp qMul (zOp qIx (zVar 0) (zC (.int 3))) (zC (.int 69621))) (zOp qDiv (zOp qIx (zVar 0) (zC (.int 3))) (zC (.int 65536)))) zNil)) (zC (.int 2147483629))) (zgName 3))
    (zRet (zOp qMod (zCall qInt (zCons (zOp qDiv (zVar 3) (zC (.int 16))) zNil)) (zVar 1)))))))
def t__law_of (sp__law_take : ZC) : ZS :=
    (zRet (zOp qIx (zVar 1) (zCallF 2 sp__law_take (zCons (zVar 0) (zCons (zCall qLen (zCons (zVar 1) zNil)) zNil)))))
def t__law_same (sp__law_same : ZC) : ZS :=
    (zSeq (zIfS (zTru (zCall qIsi (zCons (zVar 1) (zCons (zC (.ty "tuple")) zNil)))) (zSeq (zIfS (zOr (zNot (zTru (zCall qIsi (zCons (zVar 0) (zCons (zC (.ty "tuple")) zNil))))) (zTb (zOp (qEq true) (zCall qLen (zCons (zVar 0) zNil)) (zCall qLen (zCons (zVar 1) zNil))))) (zRet (zC (.bl false))) zNext)
    (zRet (zOp (qEq false) (zLc (zRngI (zCons (zCall qLen (zCons (zVar 1) zNil)) zNil)) (zgName 2) (zNot (zTru (zCallF 2 sp__law_same (zCons (zOp qIx (zVar 0) (zVar 2)) (zCons (zOp qIx (zVar 1) (zVar 2)) zNil))))) (zVar 2) [2]) (zLst zNil)))) zNext)
    (zSeq (zIfS (zTb (zOp (qIsN false) (zVar 1) (zC .non))) (zRet (zOp (qIsN false) (zVar 0) (zC .non))) zNext)
    (zSeq (zIfS (zTru (zCall qIsi (zCons (zVar 1) (zCons (zC (.ty "bool")) zNil)))) (zRet (zAndV (zCall qIsi (zCons (zVar 0) (zCons (zC (.ty "bool")) zNil))) (zOp (qEq false) (zVar 0) (zVar 1)))) zNext)
    (zSeq (zIfS (zTru (zCall qIsi (zCons (zVar 1) (zCons (zC (.ty "int")) zNil)))) (zRet (zAndV (zCall qIsi (zCons (zVar 0) (zCons (zC (.ty "int")) zNil))) (zAndV (zNotV (zCall qIsi (zCons (zVar 0) (zCons (zC (.ty "bool")) zNil)))) (zOp (qEq false) (zVar 0) (zVar 1))))) zNext)
    (zRet (zAndV (zCall qIsi (zCons (zVar 0) (zCons (zC (.ty "str")) zNil))) (zOp (qEq false) (zVar 0) (zVar 1))))))))
abbrev EndK (K : WK) : ZEnds := { nx := fun _ S' => K .non S', rt := K }
def ReelOk (S : Store) (n g : Nat) : Prop := ∃ (gs : List Int) (v r mixed : Int), S[n]? = some (.lst [.ref g, .int v, .int r, .int mixed]) ∧ S[g]? = some (.lst (gs.map W.int)) ∧ g ≠ n
@[irreducible] def sp__law_reel : ZC := fun ws S K => ∃ (s : Nat) (ns : List Int), ws = [.ref s] ∧ IsLst S s (ns.map W.int) ∧ ns.length ≤ 63 ∧ ∀ n g S', Ext S S' → S.length ≤ g → S.length ≤ n → ReelOk S' n g → K (.ref n) S'
theorem u__law_reel (ws : List W) (S : Store) (K : WK) (h : sp__law_reel ws S K) (hl : ws.length = 1) : t__law_reel (EndK K) (startL 4 ws) S := by
  unfold sp__law_reel at h
  obtain ⟨s, ns, rfl, hs, hn, h⟩ := h
  kat_tups
  refine forI (fun i L S1 => ∃ (mx : Int) (x : Option W) (gs : List Int), L = [some (.ref s), some (.ref S.length), some (.int mx), x] ∧ S1 = S ++ [.lst (gs.map W.int)] ∧ gs.length ≤ i) ⟨_, _, [], rfl, rfl, Nat.zero_le _⟩ ?_ ?_ ?_
  · rintro i L S1 ⟨mx, x, gs, rfl, rfl, _⟩
    ke_read
  · rintro i w L S1 hw ⟨mx, x, gs, rfl, rfl, hg⟩
    rw [List.getElem?_map] at hw
    have hi : i < 63 := Nat.lt_of_lt_of_le (by
      cases he : ns[i]? with
      | none => rw [he] at hw; cases hw
      | some c => exact (List.getElem?_eq_some_iff.mp he).1) hn
    obtain ⟨c, hc, rfl⟩ := Option.map_eq_some_iff.mp hw
    k_upd
    · refine ⟨_, _, gs ++ [if c < 0 then -c else c], rfl, ?_, by simp; omega⟩
      rw [List.map_append]
      rfl
    · exact ⟨_, _, gs, rfl, rfl, by omega⟩
  · rintro L S1 ⟨mx, x, gs, rfl, rfl, hg⟩
    keq_rows
    refine h _ _ _ (by k_updF) (Nat.le_refl _) (by simp) ⟨gs, 0, 0, mx, (app_get0 _ _).trans rfl, ?_, by simp⟩
    exact app_l ((app_get0 _ _).trans rfl)
@[irreducible] def sp__law_take : ZC := fun ws S K => ∃ n g many, ws = [.ref n, .int many] ∧ ReelOk S n g ∧ DivOk 0 many ∧ ∀ r S', 0 ≤ r → r < many → Keep [n, g] S S' → ReelOk S' n g → K (.int r) S'
theorem reel_set {S : Store} {n g : Nat} {gs : List Int} {v r mixed v' r' mixed' : Int} (h1 : S[n]? = some (.lst [.ref g, .int v, .int r, .int mixed])) (h2 : S[g]? = some (.lst (gs.map W.int))) (h3 : g ≠ n) :
    ReelOk (S.set n (.lst [.ref g, .int v', .int r', .int mixed'])) n g :=
  ⟨gs, v', r', mixed', List.getElem?_set_self (lt_of_get h1), by rw [List.getElem?_set_ne (Ne.symm h3)]; exact h2, h3⟩
theorem reel_pop {S : Store} {n g : Nat} {x : W} {gs : List Int} {v r mixed v' r' mixed' : Int} (h1 : S[n]? = some (.lst [.ref g, .int v, .int r, .int mixed])) (h2 : S[g]? = some (.lst (x :: gs.map W.int))) (h3 : g ≠ n) :
    ReelOk ((S.set g (.lst (gs.map W.int))).set n (.lst [.ref g, .int v', .int r', .int mixed'])) n g :=
  ⟨gs, v', r', mixed', List.getElem?_set_self (by rw [List.length_set]; exact lt_of_get h1), by rw [List.getElem?_set_ne (Ne.symm h3), List.getElem?_set_self (lt_of_get h2)], h3⟩
theorem u__law_take (ws : List W) (S : Store) (K : WK) (h : sp__law_take ws S K) (hl : ws.length = 2) : t__law_take (EndK K) (startL 4 ws) S := by
  unfold sp__law_take at h
  obtain ⟨n, g, many, rfl, ⟨gs, v, r, mixed, h1, h2, h3⟩, ⟨h5, h6⟩, h⟩ := h
  have hdv : DivOk 0 many := ⟨h5, h6⟩
  cases gs with
  | nil =>
    kat_tups
    kbo_bools
    all_goals k_upd
    all_goals first | exact h _ _ (Int.emod_nonneg _ (by omega)) (Int.emod_lt_of_pos _ h5) (Keep.set_in (by simp) (Keep.refl _ _)) (reel_set h1 h2 h3) | exact h _ _ (Int.emod_nonneg _ (by omega)) (Int.emod_lt_of_pos _ h5) (Keep.set_in (by simp) (Keep.set_in (by simp) (Keep.refl _ _))) (reel_pop h1 h2 h3)
  | cons x gs =>
    kat_tups
    kbo_bools
    all_goals k_upd
    all_goals first | exact h _ _ (Int.emod_nonneg _ (by omega)) (Int.emod_lt_of_pos _ h5) (Keep.set_in (by simp) (Keep.refl _ _)) (reel_set h1 h2 h3) | exact h _ _ (Int.emod_nonneg _ (by omega)) (Int.emod_lt_of_pos _ h5) (Keep.set_in (by simp) (Keep.set_in (by simp) (Keep.refl _ _))) (reel_pop h1 h2 h3)
theorem c__law_take {n g : Nat} {many : Int} {S : Store} {K : WK} (h1 : ReelOk S n g) (h2 : DivOk 0 many) (h : ∀ r S', 0 ≤ r → r < many → Keep [n, g] S S' → ReelOk S' n g → K (.int r) S') : sp__law_take [.ref n, .int many] S K := by unfold sp__law_take; exact ⟨n, g, many, rfl, h1, h2, h⟩
theorem c__law_reel {s : Nat} {ns : List Int} {S : Store} {K : WK} (h1 : IsLst S s (ns.map W.int)) (h2 : ns.length ≤ 63) (h : ∀ n g S', Ext S S' → S.length ≤ g → S.length ≤ n → ReelOk S' n g → K (.ref n) S') : sp__law_reel [.ref s] S K := by unfold sp__law_reel; exact ⟨s, ns, rfl, h1, h2, h⟩
theorem DivOk.len {k : Nat} (h1 : 0 < k) (h2 : k ≤ 16777216) : DivOk 0 (k : Int) := DivOk.small (by omega) (by omega)
theorem ReelOk.lt {S : Store} {n g : Nat} (h : ReelOk S n g) : n < S.length ∧ g < S.length ∧ g ≠ n := by
  obtain ⟨gs, v, r, mixed, h1, h2, h3⟩ := h
  exact ⟨lt_of_get h1, lt_of_get h2, h3⟩
theorem ReelOk.keep {ms : List Nat} {S S' : Store} {n g : Nat} (h : ReelOk S n g) (k : Keep ms S S') (hn : n ∉ ms) (hm : g ∉ ms) : ReelOk S' n g := by
  obtain ⟨gs, v, r, mixed, h1, h2, h3⟩ := h
  exact ⟨gs, v, r, mixed, k _ _ hn h1, k _ _ hm h2, h3⟩
theorem ReelOk.ext {S S' : Store} {n g : Nat} (h : ReelOk S n g) (k : Ext S S') : ReelOk S' n g := h.keep k (by simp) (by simp)
/-- a row: a tuple, or a list that is not the reel's -/
def RowAt (S : Store) (n g : Nat) (row : W) (xs : List W) : Prop := row = .tup xs ∨ ∃ q, row = .ref q ∧ IsLst S q xs ∧ q ≠ n ∧ q ≠ g
@[irreducible] def sp__law_of : ZC := fun ws S K => ∃ n g row xs, ws = [.ref n, row] ∧ ReelOk S n g ∧ RowAt S n g row xs ∧ 0 < xs.length ∧ xs.length ≤ 16777216 ∧ ∀ x S', x ∈ xs → Keep [n, g] S S' → ReelOk S' n g → K x S'
theorem c__law_of {n g : Nat} {row : W} {xs : List W} {S : Store} {K : WK} (h1 : ReelOk S n g) (h2 : RowAt S n g row xs) (h3 : 0 < xs.length) (h4 : xs.length ≤ 16777216) (h : ∀ x S', x ∈ xs → Keep [n, g] S S' → ReelOk S' n g → K x S') : sp__law_of [.ref n, row] S K := by unfold sp__law_of; exact ⟨n, g, row, xs, rfl, h1, h2, h3, h4, h⟩
theorem u__law_of (ws : List W) (S : Store) (K : WK) (h : sp__law_of ws S K) (hl : ws.length = 2) : t__law_of sp__law_take (EndK K) (startL 2 ws) S := by
  unfold sp__law_of at h
  obtain ⟨n, g, row, xs, rfl, h1, h2, h3, h4, h⟩ := h
  rcases h2 with rfl | ⟨q, rfl, hq, q1, q2⟩
  · kat_tups
    refine c__law_take h1 (DivOk.len h3 h4) fun r S' a b c d => ?_
    obtain ⟨k, rfl⟩ : ∃ k : Nat, r = (k : Int) := ⟨r.toNat, by omega⟩
    have h5 : k < xs.length := by omega
    have h6 : xs[k]? = some xs[k] := List.getElem?_eq_getElem h5
    keq_rows
    exact h _ _ (List.getElem_mem h5) c d
  · kat_tups
    refine c__law_take h1 (DivOk.len h3 h4) fun r S' a b c d => ?_
    obtain ⟨k, rfl⟩ : ∃ k : Nat, r = (k : Int) := ⟨r.toNat, by omega⟩
    have h5 : k < xs.length := by omega
    have h6 : xs[k]? = some xs[k] := List.getElem?_eq_getElem h5
    have h7 := c.lst (by simp; exact ⟨q1, q2⟩) hq
    keq_rows
    exact h _ _ (List.getElem_mem h5) c d
@[irreducible] def sp__law_same (d : Nat) : ZC := fun ws S K => ∃ x, ws = [x, x] ∧ Pl d x ∧ ∀ S', Ext S S' → K (.bl true) S'
theorem c__law_same {d : Nat} {x : W} {S : Store} {K : WK} (h1 : Pl d x) (h : ∀ S', Ext S S' → K (.bl true) S') : sp__law_same d [x, x] S K := by unfold sp__law_same; exact ⟨x, rfl, h1, h⟩
theorem c__law_sameE {d : Nat} {x y : W} {S : Store} {K : WK} (e : x = y) (h1 : Pl d x) (h : ∀ S', Ext S S' → K (.bl true) S') : sp__law_same d [x, y] S K := e ▸ c__law_same h1 h
theorem u__law_same (d : Nat) (sp : ZC) (hs : ∀ (e : Nat), d = e + 1 → sp = sp__law_same e) (ws : List W) (S : Store) (K : WK) (h : sp__law_same d ws S K) (hl : ws.length = 2) : t__law_same sp (EndK K) (startL 3 ws) S := by
  unfold sp__law_same at h
  obtain ⟨x, rfl, hp, h⟩ := h
  cases hp with
  | non => kat_tups; exact h _ (Keep.refl _ _)
  | bl => kat_tups; simpa using h _ (Keep.refl _ _)
  | int => kat_tups; simpa using h _ (Keep.refl _ _)
  | str => kat_tups; simpa using h _ (Keep.refl _ _)
  | @tup d xs hz hp =>
    cases hs _ rfl
    kat_tups
    refine lcF (fun _ => none) (fun _ _ => trivial) (by rw [rangeW_length]; exact s_sz (by omega)) ?_ ?_
    · intro i w S2 Kt Kf hw k hK hK'
      obtain ⟨hi, rfl⟩ := rangeW_inv0 hw
      have e : xs[i]? = some xs[i] := List.getElem?_eq_getElem (by omega)
      keq_rows
      refine c__law_same (hp.get e) fun S' k' => ?_
      keq_rows
      exact hK' _ rfl k'
    · intro S2 k h2
      rw [show ∀ ys : List W, ys.filterMap (fun _ => (none : Option W)) = [] from fun ys => by induction ys with | nil => rfl | cons y ys ih => exact ih] at h2
      keq_rows
      simpa using h _ (k.app_r)
end FC

set_option maxHeartbeats 2000000
/-! Z14: generator expressions. -/
namespace Z
open PySem PySem.Spec PyProof.Rows L2
open GX (anyU CodeO TabStep Made Parts TurnQ Near gcx gEnv)

/-! ### code objects made on the way -/
theorem codeAmong_app {pos : Pos} {c : Value} (l r : List Value) (h : codeAmong pos l = some c) : codeAmong pos (l ++ r) = some c := by
  fun_induction codeAmong pos l with
  | case1 line t col u x rest hc => simp only [List.cons_append, codeAmong, hc, if_true] at h ⊢; exact h
  | case2 line t col u x rest hc ih => simp only [List.cons_append, codeAmong]; rw [if_neg hc]; exact ih h
  | case3 => cases h
theorem codeAmong_snoc_inv {pos p : Pos} {c cv : Value} (l : List Value) (ht : TriplesOk l) (h : codeAmong p (l ++ [rawInt pos.line, rawInt pos.col, c]) = some cv) : codeAmong p l = some cv ∨ cv = c := by
  fun_induction TriplesOk l with
  | case1 =>
    simp only [List.nil_append, codeAmong, rawInt] at h
    split at h
    · exact .inr (Option.some.inj h).symm
    · cases h
  | case2 a t b u x rest ih =>
    simp only [List.cons_append, codeAmong] at h ⊢
    split at h
    · rename_i hc; rw [if_pos hc]; exact .inl h
    · rename_i hc; rw [if_neg hc]; exact ih ht h
  | case3 l h1 h2 => exact ht.elim
inductive Reach (base : Heap) (TB : List Addr) (H : Hp) : Addr → Addr → Prop
  | root {c P : Addr} : P ∈ TB → PySem.W.CodeHd base c P → Reach base TB H c P
  | step {c0 P0 c P : Addr} {ps : Array Value} {pos : Pos} {o : Obj} : Reach base TB H c0 P0 → H P0 = some (.tbl ps) → codeAmong pos ps.toList = some (.ref c) → H c = some (.frz o anyU) → CodeO o c P → Reach base TB H c P
section
variable {base : Heap} {TB : List Addr} {H H' : Hp} {c P : Addr}
theorem Reach.mono (kt : ∀ b ps, H b = some (.tbl ps) → ∃ more, H' b = some (.tbl (ps ++ more))) (kf : ∀ b o u, H b = some (.frz o u) → H' b = some (.frz o u)) (h : Reach base TB H c P) : Reach base TB H' c P := by
  induction h with
  | root a b => exact .root a b
  | step _ e1 e2 e3 e4 ih =>
    obtain ⟨more, e⟩ := kt _ _ e1
    exact .step ih e (by rw [Array.toList_append]; exact codeAmong_app _ _ e2) (kf _ _ _ e3) e4
theorem Reach.tab (h : Reach base TB H c P) (ht : ∀ P ∈ TB, TabG H P) : TabG H P := by
  induction h with
  | root a b => exact ht _ a
  | step _ e1 e2 e3 e4 ih =>
    intro d
    obtain ⟨ps', e', _, k⟩ := ih (d + 1)
    rw [e1] at e'
    cases e'
    obtain ⟨c', o', Q', q1, q2, q3, q4⟩ := k _ _ e2
    cases q1
    rw [e3] at q2
    cases q2
    obtain ⟨vs, _, _, _, _, _, _, _, r1, r2, r3, _⟩ := e4
    obtain ⟨vs', _, _, _, _, _, _, _, t1, t2, t3, _⟩ := q3
    rw [r2] at t2
    cases t2
    rw [r3] at t3
    cases t3
    exact q4
theorem Reach.hd {Pg : Program} {w : World} {h : Heap} (x : Reach base TB H c P) (hb : ∀ b o, base.get? b = some o → h.get? b = some o) (hk : HOk Pg w H h) : PySem.W.CodeHd h c P := by
  cases x with
  | root a b => exact b.keeps hb
  | step _ e1 e2 e3 e4 => exact e4.hd (hk _ _ e3).1
/-- a table is asked -/
theorem tab_step {pos : Pos} {code : Value} {P0 : Addr} (s : TabStep P0 pos H H' code) (h0 : ∃ ps : Array Value, H P0 = some (.tbl ps) ∧ TriplesOk ps.toList) : ∀ (d : Nat) (Q : Addr), TabD d H Q → TabD d H' Q := by
  rcases s with ⟨ps, e1, e2, rfl⟩ | ⟨ps, c', P', o, e1, et, e2, rfl, n1, n2, ne1, ne2, ne3, hc, rfl⟩
  · exact fun d Q h => h
  · have kt : ∀ b ps', b ≠ P0 → H b = some (.tbl ps') → upd (upd (upd H P0 (.tbl (ps ++ #[rawInt pos.line, rawInt pos.col, .ref c']))) P' (.tbl #[])) c' (.frz o anyU) b = some (.tbl ps') := fun b ps' hb e => by
      rw [upd_ne (ne_of_none e n1), upd_ne (ne_of_none e n2), upd_ne hb]; exact e
    have kf : ∀ b o', H b = some (.frz o' anyU) → upd (upd (upd H P0 (.tbl (ps ++ #[rawInt pos.line, rawInt pos.col, .ref c']))) P' (.tbl #[])) c' (.frz o anyU) b = some (.frz o' anyU) := fun b o' e => by
      rw [upd_ne (ne_of_none e n1), upd_ne (ne_of_none e n2), upd_ne (fun z => by rw [z, e1] at e; cases e)]; exact e
    have kP : upd (upd (upd H P0 (.tbl (ps ++ #[rawInt pos.line, rawInt pos.col, .ref c']))) P' (.tbl #[])) c' (.frz o anyU) P0 = some (.tbl (ps ++ #[rawInt pos.line, rawInt pos.col, .ref c'])) := by
      rw [upd_ne (Ne.symm ne2), upd_ne (Ne.symm ne3), upd_same]
    have kc : upd (upd (upd H P0 (.tbl (ps ++ #[rawInt pos.line, rawInt pos.col, .ref c']))) P' (.tbl #[])) c' (.frz o anyU) c' = some (.frz o anyU) := upd_same
    have kP' : upd (upd (upd H P0 (.tbl (ps ++ #[rawInt pos.line, rawInt pos.col, .ref c']))) P' (.tbl #[])) c' (.frz o anyU) P' = some (.tbl #[]) := by rw [upd_ne (Ne.symm ne1), upd_same]
    have new : ∀ d, TabD d (upd (upd (upd H P0 (.tbl (ps ++ #[rawInt pos.line, rawInt pos.col, .ref c']))) P' (.tbl #[])) c' (.frz o anyU)) P' := fun d => by
      cases d with
      | zero => exact ⟨_, kP', trivial⟩
      | succ d => exact ⟨_, kP', trivial, fun pos cv h => by simp [codeAmong] at h⟩
    have tr : TriplesOk (ps ++ #[rawInt pos.line, rawInt pos.col, Value.ref c']).toList := by
      rw [Array.toList_append]
      exact TriplesOk_snoc _ _ _ _ et
    intro d
    induction d with
    | zero =>
      rintro Q ⟨ps', e, t⟩
      by_cases hQ : Q = P0
      · subst hQ
        exact ⟨_, kP, tr⟩
      · exact ⟨ps', kt _ _ hQ e, t⟩
    | succ d ih =>
      rintro Q ⟨ps', e, t, k⟩
      by_cases hQ : Q = P0
      · subst hQ
        rw [e1] at e
        cases e
        refine ⟨_, kP, tr, fun p cv h => ?_⟩
        rw [Array.toList_append] at h
        rcases codeAmong_snoc_inv _ et h with h | h
        · obtain ⟨c, o', Q', q1, q2, q3, q4⟩ := k p cv h
          exact ⟨c, o', Q', q1, kf _ _ q2, q3, ih _ q4⟩
        · subst h
          exact ⟨c', o, P', rfl, kc, hc, new d⟩
      · refine ⟨ps', kt _ _ hQ e, t, fun p cv h => ?_⟩
        obtain ⟨c, o', Q', q1, q2, q3, q4⟩ := k p cv h
        exact ⟨c, o', Q', q1, kf _ _ q2, q3, ih _ q4⟩
theorem TabStep.lst {pos : Pos} {code : Value} {P0 : Addr} (s : TabStep P0 pos H H' code) {b : Addr} {u : HO} (e : H b = some u) (h : ∀ ps, u ≠ .tbl ps) : H' b = some u := by
  rcases s with ⟨ps, e1, e2, rfl⟩ | ⟨ps, c', P', o, e1, et, e2, rfl, n1, n2, ne1, ne2, ne3, hc, rfl⟩
  · exact e
  · rw [upd_ne (ne_of_none e n1), upd_ne (ne_of_none e n2), upd_ne (fun z => by rw [z, e1] at e; exact h _ (Option.some.inj e).symm)]
    exact e
theorem TabStep.ext {pos : Pos} {code : Value} {P0 : Addr} (s : TabStep P0 pos H H' code) : HExt H H' := fun _ _ e => TabStep.lst s e fun _ z => by cases z
theorem TabStep.sok {K : PySem.W.Frag} {A : List Addr} {S : Store} {pos : Pos} {code : Value} {P0 : Addr} (s : TabStep P0 pos H H' code) (h0 : ∃ ps : Array Value, H P0 = some (.tbl ps) ∧ TriplesOk ps.toList) (h : SOk K TB A S H) : SOk K TB A S H' := by
  refine ⟨h.len, h.inj, fun n a o h1 h2 => ?_, fun P hP d => tab_step s h0 d P (h.tab P hP d)⟩
  refine (h.cell n a o h1 h2).mono (AExt.refl _) (TabStep.ext s) (fun m => ?_) fun z y e => TabStep.lst s e fun _ z => by cases z
  obtain ⟨u, e, _, _, nb, _⟩ := (h.cell n a o h1 h2).trk m
  rw [e]
  exact TabStep.lst s e nb
/-- the new frame's code -/
theorem TabStep.reach {pos : Pos} {code : Value} {c0 P0 : Addr} (s : TabStep P0 pos H H' code) (r : Reach base TB H c0 P0) (ht : ∀ P ∈ TB, TabG H P) : ∃ c P, code = .ref c ∧ Reach base TB H' c P := by
  have s0 := s
  rcases s with ⟨ps, e1, e2, rfl⟩ | ⟨ps, c', P', o, e1, et, e2, rfl, n1, n2, ne1, ne2, ne3, hc, rfl⟩
  · obtain ⟨ps', e', _, k⟩ := r.tab ht 1
    rw [e1] at e'
    cases e'
    obtain ⟨c, o, Q, q1, q2, q3, _⟩ := k _ _ e2
    exact ⟨c, Q, q1, .step r e1 (q1 ▸ e2) q2 q3⟩
  · refine ⟨c', P', rfl, .step (ps := ps ++ #[rawInt pos.line, rawInt pos.col, .ref c']) (pos := pos) (r.mono (fun b ps' e => ?_) fun b o' u e => TabStep.lst s0 e fun _ z => by cases z) ?_ ?_ upd_same hc⟩
    · by_cases hb : b = P0
      · subst hb
        rw [e1] at e
        cases e
        exact ⟨_, by rw [upd_ne (Ne.symm ne2), upd_ne (Ne.symm ne3), upd_same]⟩
      · refine ⟨#[], ?_⟩
        rw [upd_ne (ne_of_none e n1), upd_ne (ne_of_none e n2), upd_ne hb, e]
        simp
    · rw [upd_ne (Ne.symm ne2), upd_ne (Ne.symm ne3), upd_same]
    · rw [Array.toList_append]
      exact codeAmong_snoc _ et e2
end
/-- a context whose code's table is known -/
structure ZCx (TB : List Addr) (X : Cx) : Prop where
  code : ∃ c P, X.env.code = .ref c ∧ Reach X.base TB X.H_0 c P
  bm : ∃ (bm : Addr) (ob : Obj), X.mg "__builtins__" = some (.ref bm) ∧ bm ≠ builtinsNs ∧ X.base.get? bm = some ob ∧ ob.cls = .type "module" ∧ ob.dict = some builtinsNs ∧ ob.data = .plain

/-! ### walked: what comes, and what is wanted of it -/
@[irreducible] def GlEnd (z : ZIt) (g : ZTG) (tt : ZT) (te : ZE) (vs : List Nat) (L : Loc') (S1 : Store) (Yl : List W → W → Store → Prop → Prop) (Dn : List W → Store → Prop) : Prop := Bx (z.its.length ≤ sizeLine ∧ ∃ P : Nat → List W → Store → Prop, P 0 [] S1 ∧
  (∀ i acc w S2, z.its[i]? = some w → P i acc S2 → z.G S2 ∧ g w (wipeL L vs) S2 fun L' S3 => tt L' S3 fun b S4 => qIf b (te L' S4 fun y S5 => Yl acc y S5 (P (i + 1) (acc ++ [y]) S5)) (P (i + 1) acc S4)) ∧
  ∀ acc S2, P z.its.length acc S2 → z.G S2 ∧ Dn acc S2)
/-- any, all -/
def yAny (stop : Bool) (K : WK) : List W → W → Store → Prop → Prop := fun _ y S nx => onSome (y.truth S) fun k => qIf (k == stop) (K (.bl stop) S) nx
def zAnyG (stop : Bool) (ti : ZTI) (g : ZTG) (tt : ZT) (te : ZE) (vs : List Nat) : ZE := fun L S K => ti L S fun z S1 => GlEnd z g tt te vs L S1 (yAny stop K) fun _ S => K (.bl (!stop)) S
/-- tuple -/
def zTupG (ti : ZTI) (g : ZTG) (tt : ZT) (te : ZE) (vs : List Nat) : ZE := fun L S K => ti L S fun z S1 => GlEnd z g tt te vs L S1 (fun _ _ _ nx => nx) fun acc S => K (.tup acc) S
def W.isInt : W → Bool
  | .int _ => true
  | .bl _ => true
  | _ => false
def W.toInt : W → Int
  | .int i => i
  | .bl b => if b then 1 else 0
  | _ => 0
def sumW (xs : List W) : Int := (xs.map W.toInt).sum
/-- sum -/
def ySum : List W → W → Store → Prop → Prop := fun acc y _ nx => y.isInt = true ∧ InLong y.toInt ∧ InLong (sumW (acc ++ [y])) ∧ (∀ x ∈ acc, x.isInt = true) ∧ nx
def zSumG (ti : ZTI) (g : ZTG) (tt : ZT) (te : ZE) (vs : List Nat) : ZE := fun L S K => ti L S fun z S1 => GlEnd z g tt te vs L S1 ySum fun acc S => (∀ x ∈ acc, x.isInt = true) ∧ K (.int (sumW acc)) S
section
variable {K : PySem.W.Frag} {A : List Addr} {H : Hp}
theorem Rep.intV {w : W} {v : V} (r : Rep K A H w v) : (w.isInt = true → GX.IsIntV v) ∧ GX.intV v = w.toInt := by
  cases r <;> exact ⟨fun h => (by first | trivial | cases h), rfl⟩
theorem Reps.intV : ∀ {ws : List W} {vs : List V}, Reps K A H ws vs → ((∀ w ∈ ws, w.isInt = true) → ∀ v ∈ vs, GX.IsIntV v) ∧ GX.sumV vs = sumW ws
  | _, _, .nil => ⟨fun _ _ h => (nomatch h), rfl⟩
  | w :: ws, v :: vs, .cons r t => by
    have ih := Reps.intV t
    refine ⟨fun h x hx => ?_, ?_⟩
    · rcases List.mem_cons.mp hx with e | hx
      · rw [e]; exact r.intV.1 (h w List.mem_cons_self)
      · exact ih.1 (fun y hy => h y (List.mem_cons_of_mem _ hy)) x hx
    · have h2 := ih.2
      simp only [GX.sumV, sumW, List.map_cons, List.sum_cons] at h2 ⊢
      rw [h2, r.intV.2]
end
section
variable {X : Cx} {TB : List Addr} {σ : L2.St} {z : ZIt} {J : It} {A A1 : List Addr} {H H2 : Hp} {S1 : Store} {L : Loc'} {g : ZTG} {tt : ZT} {te : ZE} {vs : List Nat} {P : Nat → List W → Store → Prop} {Yl : List W → W → Store → Prop → Prop} {Dn : List W → Store → Prop}
def WG (K : PySem.W.Frag) (TB : List Addr) (z : ZIt) (A1 : List Addr) (H2 : Hp) (P : Nat → List W → Store → Prop) : Nat → Nat → List V → Hp → Prop := fun m i acc H => m = z.its.length - i ∧ i ≤ z.its.length ∧ acc.length ≤ i ∧ ∃ A' S' accW, AExt A1 A' ∧ HExt H2 H ∧ SOk K TB A' S' H ∧ Reps K A' H accW acc ∧ P i accW S'
theorem wipe_idem : ∀ (vs : List Nat) (σ : L2.St), L2.wipe (L2.wipe σ vs) vs = L2.wipe σ vs := by
  have key : ∀ (us vs : List Nat) (σ : L2.St), (∀ u ∈ us, u ∈ vs) → L2.wipe (L2.wipe σ us) vs = L2.wipe σ vs := by
    intro us
    induction us with
    | nil => intro vs σ _; rfl
    | cons u us ih =>
      intro vs σ hu
      show L2.wipe ((L2.wipe σ us).set u none) vs = _
      rw [wipe_set (hu u List.mem_cons_self)]
      exact ih vs σ fun x hx => hu x (List.mem_cons_of_mem _ hx)
  intro vs σ
  exact key vs vs σ fun _ h => h
theorem gl_turn {YL : Nat → Nat → List V → V → Hp → Prop} {DL : List V → Hp → Prop} (lk : LOk X.K A1 H2 L σ) (wk : Wk X.K TB A1 H2 z J)
    (ps : ∀ i acc w S2, z.its[i]? = some w → P i acc S2 → z.G S2 ∧ g w (wipeL L vs) S2 fun L' S3 => tt L' S3 fun b S4 => qIf b (te L' S4 fun y S5 => Yl acc y S5 (P (i + 1) (acc ++ [y]) S5)) (P (i + 1) acc S4))
    (pd : ∀ acc S2, P z.its.length acc S2 → z.G S2 ∧ Dn acc S2)
    (hY : ∀ i acc y H A' S' accW w, i < z.its.length → acc.length ≤ i → AExt A1 A' → HExt H2 H → SOk X.K TB A' S' H → Reps X.K A' H accW acc → Rep X.K A' H w y → Yl accW w S' (P (i + 1) (accW ++ [w]) S') → YL (z.its.length - i) i acc y H)
    (hD : ∀ acc H A' S' accW, acc.length ≤ z.its.length → AExt A1 A' → HExt H2 H → SOk X.K TB A' S' H → Reps X.K A' H accW acc → Dn accW S' → DL acc H) :
    TurnQ J (lowGc X.K TB vs g) (lowT X.K TB tt) (low X.K TB te) vs σ (WG X.K TB z A1 H2 P) YL DL := by
  rintro m i acc H3 ⟨rfl, hi2, hal, A3, S3, accW, ea3, eh3, s3, r3, p3⟩
  by_cases hlt : i < z.its.length
  · have hw := List.getElem?_eq_getElem hlt
    obtain ⟨g2, q2⟩ := ps i accW _ S3 hw p3
    refine .inr ⟨wk.go i A3 S3 H3 hlt ea3 eh3 s3 g2, fun x H4 y => ?_⟩
    obtain ⟨eh4, s4, w, hw', rw'⟩ := wk.yld i A3 S3 H3 x H4 hlt ea3 eh3 s3 g2 y
    rw [hw] at hw'
    cases hw'
    refine ⟨wipeL L vs, S3, A3, _, _, s4, ((lk.mono ea3 (eh3.trans eh4)).wipe vs), rw', q2, fun σ5 H5 ⟨A5, S5, L5, ea5, eh5, s5, l5, q5⟩ e5 => ⟨by rw [e5, wipe_idem], ?_⟩⟩
    refine ⟨L5, S5, A5, _, s5, l5, q5, fun b H6 ⟨A6, S6, ea6, eh6, s6, q6⟩ => ?_⟩
    have EA6 := (ea3.trans ea5).trans ea6
    have EH6 := ((eh3.trans eh4).trans eh5).trans eh6
    cases b with
    | false =>
      dsimp only at q6 ⊢
      rw [qIf_f] at q6
      rw [if_neg Bool.false_ne_true]
      exact ⟨z.its.length - (i + 1), by omega, rfl, hlt, Nat.le_succ_of_le hal, A6, S6, accW, EA6, EH6, s6, r3.mono (ea5.trans ea6) ((eh4.trans eh5).trans eh6), q6⟩
    | true =>
      dsimp only at q6 ⊢
      rw [qIf_t] at q6
      rw [if_pos rfl]
      refine ⟨L5, S6, A6, _, s6, l5.mono ea6 eh6, q6, fun v7 H7 ⟨A7, S7, w7, ea7, eh7, s7, r7, q7⟩ => ?_⟩
      exact hY i acc v7 H7 A7 S7 accW w7 hlt hal (EA6.trans ea7) (EH6.trans eh7) s7 (r3.mono ((ea5.trans ea6).trans ea7) (((eh4.trans eh5).trans eh6).trans eh7)) r7 q7
  · have e : i = z.its.length := by omega
    subst e
    obtain ⟨g2, q2⟩ := pd accW S3 p3
    exact .inl ⟨wk.stop A3 S3 H3 ea3 eh3 s3 g2, hD acc H3 A3 S3 accW hal ea3 eh3 s3 r3 q2⟩
end
/-- the code object of a def of the text -/
structure ZRoot (TB : List Addr) (X : Cx) : Prop where
  code : ∃ c P, X.env.code = .ref c ∧ P ∈ TB ∧ PySem.W.CodeHd X.base c P
  bm : ∃ (bm : Addr) (ob : Obj), X.mg "__builtins__" = some (.ref bm) ∧ bm ≠ builtinsNs ∧ X.base.get? bm = some ob ∧ ob.cls = .type "module" ∧ ob.dict = some builtinsNs ∧ ob.data = .plain
theorem ZRoot.cx {TB : List Addr} {X : Cx} (h : ZRoot TB X) : ZCx TB X := let ⟨c, P, a, b, d⟩ := h.code; ⟨⟨c, P, a, .root b d⟩, h.bm⟩
theorem near_room {k : Nat} {X : Cx} {A : Around} (hr : Room (k + 1) X.A) (n : Near X A) (env : Env) : Room k (A.deeper env) := by
  obtain ⟨h1, h2, h3, h4⟩ := n
  refine ⟨h1, ?_, ?_⟩
  · have := hr.dp
    show A.depth + 1 + 3 * k + 5 < _
    omega
  · have := hr.un
    show A.units + 3 + 16 * k + 200 < _
    omega
section
variable {X : Cx} {TB : List Addr} {k : Nat} {ti : ZTI} {g : ZTG} {tt : ZT} {te : ZE} {vs : List Nat} {elt tg iter : Expr} {ifs : List Expr} {scope : Scope} {own : List (Str × Nat)} {gpos p pos : Pos}
/-- the parts, wherever the frame runs -/
structure ZParts (TB : List Addr) (X : Cx) (k : Nat) (scope : Scope) (own : List (Str × Nat)) (elt tg : Expr) (ifs : List Expr) (g : ZTG) (tt : ZT) (te : ZE) : Prop where
  ok : ∀ (A : Around) (s : Shared) (H : Hp) (cl : List (Str × Addr)) (C : Addr) (fp : List Addr) (code : Value), ZCx TB (gcx X A s H scope (gEnv scope cl C code X) fp) → Room k (gcx X A s H scope (gEnv scope cl C code X) fp).A →
    ZPGc TB (own.map (·.2)) (gcx X A s H scope (gEnv scope cl C code X) fp) tg g ∧ ZPTs TB (gcx X A s H scope (gEnv scope cl C code X) fp) ifs tt ∧ ZPE TB (gcx X A s H scope (gEnv scope cl C code X) fp) elt te
/-- what a genexp must be, besides its parts -/
structure GenOk (TB : List Addr) (X : Cx) (k : Nat) (scope : Scope) (own : List (Str × Nat)) (tg iter : Expr) (ti : ZTI) : Prop where
  cx : ZCx TB X
  hr : Room (k + 1) X.A
  hi : ZPI TB X tg iter ti
  ok : BlkOk X.N X.env.scope scope own
  nd : X.N.Nodup
  h0 : (".0" : Str) ∉ X.N
  l0 : scope.names.lookup (".0" : Str) = some NameKind.local
  co : scope.isCoroutine = false
  fold : ∀ v, genFold iter X.env v = pure v
theorem gen_eval {pins : List (Addr × Obj)} {σ : L2.St} {H : Hp} {s : Shared} {Q' : Value → Shared → Prop} {L : Loc'} {S : Store} {A : List Addr} {Kz : ZIt → Store → Prop} (G : GenOk TB X k scope own tg iter ti) (Pt : ZParts TB X k scope own elt tg ifs g tt te) (I : Inv X pins σ H s) (sk : SOk X.K TB A S H) (lk : LOk X.K A H L σ) (h : ti L S Kz)
    (hQ : ∀ z S1 A1 H2 J code a s5, Kz z S1 → AExt A A1 → HExt H H2 → SOk X.K TB A1 S1 H2 → LOk X.K A1 H2 L σ → Wk X.K TB A1 H2 z J → Made X pins σ H2 code scope own elt tg iter ifs gpos J a s5 → Parts X H2 code scope tg elt ifs (lowGc X.K TB (own.map (·.2)) g) (lowT X.K TB tt) (low X.K TB te) → Inv X pins σ H2 s5 → Q' (.ref a) s5) :
    wpAny (model X.prog X.w) X.A (eval (.GeneratorExp elt [⟨tg, iter, ifs, 0⟩] scope gpos) X.env) Q' X.xe s := by
  obtain ⟨⟨⟨c, P, hc, hre⟩, bm⟩, hr, hi, ok, nd, h0, l0, co, fold⟩ := G
  have reachAt : ∀ {H1 : Hp} {s2 : Shared}, Inv X pins σ H1 s2 → Reach X.base TB H1 c P := fun I2 => hre.mono (fun b ps e => I2.base.tbls b ps e) fun b o u e => I2.base.frzs b o u e
  refine GX.gen_make (P := P) (R := fun J H1 => ∃ z S1 A1, Kz z S1 ∧ AExt A A1 ∧ HExt H H1 ∧ SOk X.K TB A1 S1 H1 ∧ Wk X.K TB A1 H1 z J) (by have := hr.dp; omega) bm hc hi.pi ok nd h0 l0 co fold I ?_ ?_ ?_
  · exact ⟨L, S, A, Kz, sk, lk, h, fun z S' A' H' J ea eh s' wk kz => ⟨z, S', A', kz, ea, eh, s', wk⟩⟩
  · rintro J H1 s2 I2 ⟨z, S1, A1, kz, ea, eh, s1, wk⟩
    exact ⟨((reachAt I2).tab s1.tab).tbl, (reachAt I2).hd I2.bk I2.hok⟩
  · rintro J H1 H2 code a s2 s5 I2 ⟨z, S1, A1, kz, ea, eh, s1, wk⟩ ts M
    have h0' := ((reachAt I2).tab s1.tab).tbl
    have eh2 := TabStep.ext ts
    have s2' := TabStep.sok ts h0' s1
    have EH := eh.trans eh2
    obtain ⟨c', P', ec, rc⟩ := TabStep.reach ts (reachAt I2) s1.tab
    refine hQ z S1 A1 H2 J code a s5 kz ea EH s2' (lk.mono ea EH) (wk.mono (.refl _) eh2) M ?_ M.1
    have zc : ∀ (A : Around) (s : Shared) (cl : List (Str × Addr)) (C : Addr) (fp : List Addr), ZCx TB (gcx X A s H2 scope (gEnv scope cl C code X) fp) := fun A s cl C fp => ⟨⟨c', P', ec, rc⟩, bm⟩
    exact ⟨fun A s cl C fp n => (Pt.ok A s H2 cl C fp code (zc A s cl C fp) (near_room hr n _)).1.pg, fun A s cl C fp n => (Pt.ok A s H2 cl C fp code (zc A s cl C fp) (near_room hr n _)).2.1.pt, fun A s cl C fp n => (Pt.ok A s H2 cl C fp code (zc A s cl C fp) (near_room hr n _)).2.2.pe⟩
theorem gen_argB {id : String} {elt' : Expr} {pins : List (Addr × Obj)} {σ : L2.St} {H : Hp} {s : Shared} {Q : Value → Shared → Prop} {x : Str} (I : Inv X pins σ H s) (hg : Gl X x) (hm : X.mg x = none) (hv : bootBuiltins x = some (.builtin id))
    (h : wpAny (model X.prog X.w) X.A (eval elt' X.env) (fun v s1 => wpAny (model X.prog X.w) X.A (call (.builtin id) [v]) Q X.xe s1) X.xe s)
    (he : starEach [elt'] X.env = (false, eval elt' X.env) :: starEach [] X.env) (hn : x ≠ "__name__" := by decide) (hd : (x == ("__debug__" : Str)) = false := by decide) : wpAny (model X.prog X.w) X.A (eval (.Call (.Name x p) [elt'] [] pos) X.env) Q X.xe s := by
  refine wpAny_Call_Name_kw (ld_blt I hg hm hv ?_ hn hd)
  refine PyProof.Rows.callWith_builtin1 ?_ he (by rfl)
  rw [he]
  show wpAny _ _ (spliced ((false, eval elt' X.env) :: backTo pos (starEach [] X.env))) _ _ s
  exact Calls.spliced_cons (thn h fun v s1 h1 => Calls.spliced_nil h1)
theorem gen_argT {T : String} {elt' : Expr} {pins : List (Addr × Obj)} {σ : L2.St} {H : Hp} {s : Shared} {Q : Value → Shared → Prop} {x : Str} (I : Inv X pins σ H s) (hg : Gl X x) (hm : X.mg x = none) (hv : bootBuiltins x = some (.type T))
    (h : wpAny (model X.prog X.w) X.A (eval elt' X.env) (fun v s1 => wpAny (model X.prog X.w) X.A (call (.type T) [v]) Q X.xe s1) X.xe s)
    (he : starEach [elt'] X.env = (false, eval elt' X.env) :: starEach [] X.env) (hn : x ≠ "__name__" := by decide) (hd : (x == ("__debug__" : Str)) = false := by decide) : wpAny (model X.prog X.w) X.A (eval (.Call (.Name x p) [elt'] [] pos) X.env) Q X.xe s := by
  refine wpAny_Call_Name_kw (ld_blt I hg hm hv ?_ hn hd)
  refine PyProof.Rows.callWith_type1 ?_ he (by rfl)
  rw [he]
  show wpAny _ _ (spliced ((false, eval elt' X.env) :: backTo pos (starEach [] X.env))) _ _ s
  exact Calls.spliced_cons (thn h fun v s1 h1 => Calls.spliced_nil h1)
theorem near0 {pins : List (Addr × Obj)} {σ : L2.St} {H : Hp} {s : Shared} (hr : Room (k + 1) X.A) (I : Inv X pins σ H s) : Near X X.A := ⟨hr.hd, I.ok.frames, rfl, by omega⟩
theorem any_work {A1 : List Addr} {H2 : Hp} {S1 : Store} {z : ZIt} {J : It} {L : Loc'} {σ : L2.St} {pins : List (Addr × Obj)} {Kc : WK} {Q : VK} {stop : Bool} {A : List Addr} {H : Hp} (ea : AExt A A1) (eh : HExt H H2) (lk : LOk X.K A1 H2 L σ) (sk : SOk X.K TB A1 S1 H2) (wk : Wk X.K TB A1 H2 z J) (hQ : ∀ v H', Aft X.K TB A H Kc v H' → Q v H')
    (h : GlEnd z g tt te vs L S1 (yAny stop Kc) fun _ S => Kc (.bl (!stop)) S) : ∃ (Wr : Nat → Nat → List V → Hp → Prop), Wr z.its.length 0 [] H2 ∧ TurnQ J (lowGc X.K TB vs g) (lowT X.K TB tt) (low X.K TB te) vs σ Wr (GX.YAny X pins σ stop (EP X pins σ Q) Wr) (GX.DAny X pins σ stop (EP X pins σ Q)) := by
  unfold GlEnd at h
  obtain ⟨hz, P, p0, ps, pd⟩ := h.ok
  refine ⟨WG X.K TB z A1 H2 P, ⟨rfl, Nat.zero_le _, Nat.le_refl _, A1, S1, [], .refl _, .refl _, sk, .nil, p0⟩, gl_turn lk wk ps pd ?_ ?_⟩
  · intro i acc y H' A' S' accW w hi hal ea' eh' s' r' rw' hy
    obtain ⟨k, ek, hk⟩ := onSome_ex hy
    refine ⟨k, tru_of s' rw' ek, ?_⟩
    by_cases hs : k = stop
    · rw [if_pos hs]
      subst hs
      rw [beq_self_eq_true, qIf_t] at hk
      exact fun s2 I2 => ⟨.bl k, H', I2, rfl, hQ _ _ ((Aft.here s' (.bl k) hk).on (ea.trans ea') (eh.trans eh'))⟩
    · rw [if_neg hs]
      rw [beq_eq_false_iff_ne.mpr hs, qIf_f] at hk
      exact ⟨z.its.length - (i + 1), by omega, rfl, hi, by simp; omega, A', S', accW ++ [w], ea', eh', s', r'.append (.cons rw' .nil), hk⟩
  · intro acc H' A' S' accW hal ea' eh' s' r' hd s2 I2
    exact ⟨.bl (!stop), H', I2, rfl, hQ _ _ ((Aft.here s' (.bl _) hd).on (ea.trans ea') (eh.trans eh'))⟩
theorem z_gAny (G : GenOk TB X k scope own tg iter ti) (Pt : ZParts TB X k scope own elt tg ifs g tt te) (hg : Gl X "any") (hm : X.mg "any" = none) (he : starEach [.GeneratorExp elt [⟨tg, iter, ifs, 0⟩] scope gpos] X.env = (false, eval (.GeneratorExp elt [⟨tg, iter, ifs, 0⟩] scope gpos) X.env) :: starEach [] X.env := by rfl) :
    ZPE TB X (.Call (.Name "any" p) [.GeneratorExp elt [⟨tg, iter, ifs, 0⟩] scope gpos] [] pos) (zAnyG true ti g tt te (own.map (·.2))) := by
  refine ⟨⟨fun pins s σ H Q I ⟨L, S, A, Kc, sk, lk, h, hQ⟩ => ?_⟩⟩
  refine gen_argB (id := "any") I hg hm boot_any (gen_eval G Pt I sk lk h fun z S1 A1 H2 J code a s5 h1 ea eh s1 l1 wk M Pa I5 => ?_) he
  obtain ⟨Wr, w0, turn⟩ := any_work (pins := pins) ea eh l1 s1 wk hQ h1
  exact GX.any_gen (near0 G.hr I5) (by omega) (by have := G.hr.dp; omega) M Pa turn w0
theorem boot_all' : bootBuiltins "all" = some (.builtin "all") := by decide +kernel
theorem boot_sum' : bootBuiltins "sum" = some (.builtin "sum") := by decide +kernel
theorem boot_tuple' : bootBuiltins "tuple" = some (.type "tuple") := by decide +kernel
theorem z_gAll (G : GenOk TB X k scope own tg iter ti) (Pt : ZParts TB X k scope own elt tg ifs g tt te) (hg : Gl X "all") (hm : X.mg "all" = none) (he : starEach [.GeneratorExp elt [⟨tg, iter, ifs, 0⟩] scope gpos] X.env = (false, eval (.GeneratorExp elt [⟨tg, iter, ifs, 0⟩] scope gpos) X.env) :: starEach [] X.env := by rfl) :
    ZPE TB X (.Call (.Name "all" p) [.GeneratorExp elt [⟨tg, iter, ifs, 0⟩] scope gpos] [] pos) (zAnyG false ti g tt te (own.map (·.2))) := by
  refine ⟨⟨fun pins s σ H Q I ⟨L, S, A, Kc, sk, lk, h, hQ⟩ => ?_⟩⟩
  refine gen_argB (id := "all") I hg hm boot_all' (gen_eval G Pt I sk lk h fun z S1 A1 H2 J code a s5 h1 ea eh s1 l1 wk M Pa I5 => ?_) he
  obtain ⟨Wr, w0, turn⟩ := any_work (pins := pins) ea eh l1 s1 wk hQ h1
  exact GX.all_gen (near0 G.hr I5) (by omega) (by have := G.hr.dp; omega) M Pa turn w0
theorem z_gTup (G : GenOk TB X k scope own tg iter ti) (Pt : ZParts TB X k scope own elt tg ifs g tt te) (hg : Gl X "tuple") (hm : X.mg "tuple" = none) (he : starEach [.GeneratorExp elt [⟨tg, iter, ifs, 0⟩] scope gpos] X.env = (false, eval (.GeneratorExp elt [⟨tg, iter, ifs, 0⟩] scope gpos) X.env) :: starEach [] X.env := by rfl) :
    ZPE TB X (.Call (.Name "tuple" p) [.GeneratorExp elt [⟨tg, iter, ifs, 0⟩] scope gpos] [] pos) (zTupG ti g tt te (own.map (·.2))) := by
  refine ⟨⟨fun pins s σ H Q I ⟨L, S, A, Kc, sk, lk, h, hQ⟩ => ?_⟩⟩
  refine gen_argT (T := "tuple") I hg hm boot_tuple' (gen_eval G Pt I sk lk h fun z S1 A1 H2 J code a s5 h1 ea eh s1 l1 wk M Pa I5 => ?_) he
  unfold GlEnd at h1
  obtain ⟨hz, P, p0, ps, pd⟩ := h1.ok
  refine GX.tuple_gen (m := z.its.length) (W := WG X.K TB z A1 H2 P) (Dn := fun acc H' => acc.length ≤ sizeLine ∧ ∃ A' S' accW, AExt A1 A' ∧ HExt H2 H' ∧ SOk X.K TB A' S' H' ∧ Reps X.K A' H' accW acc ∧ Kc (.tup accW) S') (near0 G.hr I5) (by omega) (by have := G.hr.dp; omega) M Pa (gl_turn (Yl := fun _ _ _ nx => nx) (Dn := fun acc S => Kc (.tup acc) S) l1 wk ps pd ?_ ?_)
    ⟨rfl, Nat.zero_le _, Nat.le_refl _, A1, S1, [], .refl _, .refl _, s1, .nil, p0⟩ (fun acc H' h => h.1) fun s' acc us H' rv I' ⟨hl, A', S', accW, ea', eh', s'', r', kc⟩ => ?_
  · intro i acc y H' A' S' accW w hi hal ea' eh' s' r' rw' hy
    exact ⟨by omega, z.its.length - (i + 1), by omega, rfl, hi, by simp; omega, A', S', accW ++ [w], ea', eh', s', r'.append (.cons rw' .nil), hy⟩
  · intro acc H' A' S' accW hal ea' eh' s' r' hd
    exact ⟨by omega, A', S', accW, ea', eh', s', r', hd⟩
  · have hp : H' s'.heap.objs.size = none := I'.hok.fresh (Nat.le_refl _)
    refine ⟨.ref s'.heap.objs.size, upd H' s'.heap.objs.size (.tup acc), I'.laid (t' := s'.toks) (fun b o e => Heap.get?_push_of_some _ e) (Nat.le_refl _) ⟨hl, us, rv, ?_⟩, rfl, hQ _ _ ((Aft.tup s'' r' hp kc).on (ea.trans ea') (eh.trans eh'))⟩
    exact ⟨_, Heap.get?_push_size _ rfl, rfl, 0, rfl⟩
theorem z_gSum (G : GenOk TB X k scope own tg iter ti) (Pt : ZParts TB X k scope own elt tg ifs g tt te) (hg : Gl X "sum") (hm : X.mg "sum" = none) (he : starEach [.GeneratorExp elt [⟨tg, iter, ifs, 0⟩] scope gpos] X.env = (false, eval (.GeneratorExp elt [⟨tg, iter, ifs, 0⟩] scope gpos) X.env) :: starEach [] X.env := by rfl) :
    ZPE TB X (.Call (.Name "sum" p) [.GeneratorExp elt [⟨tg, iter, ifs, 0⟩] scope gpos] [] pos) (zSumG ti g tt te (own.map (·.2))) := by
  refine ⟨⟨fun pins s σ H Q I ⟨L, S, A, Kc, sk, lk, h, hQ⟩ => ?_⟩⟩
  refine gen_argB (id := "sum") I hg hm boot_sum' (gen_eval G Pt I sk lk h fun z S1 A1 H2 J code a s5 h1 ea eh s1 l1 wk M Pa I5 => ?_) he
  unfold GlEnd at h1
  obtain ⟨hz, P, p0, ps, pd⟩ := h1.ok
  refine GX.sum_gen (m := z.its.length) (W := WG X.K TB z A1 H2 P) (Dn := fun acc H' => ∃ A' S' accW, AExt A1 A' ∧ HExt H2 H' ∧ SOk X.K TB A' S' H' ∧ Reps X.K A' H' accW acc ∧ (∀ x ∈ accW, x.isInt = true) ∧ Kc (.int (sumW accW)) S') (near0 G.hr I5) (by omega) (by have := G.hr.dp; omega) M Pa (gl_turn l1 wk ps pd ?_ ?_)
    ⟨rfl, Nat.zero_le _, Nat.le_refl _, A1, S1, [], .refl _, .refl _, s1, .nil, p0⟩ fun s' acc us H' t rv I' ⟨A', S', accW, ea', eh', s'', r', hi, kc⟩ => ?_
  · rintro i acc y H' A' S' accW w hi hal ea' eh' s' r' rw' ⟨h1, h2, h3, h4, hy⟩
    refine ⟨rw'.intV.1 h1, by rw [rw'.intV.2]; exact h2, by rw [(r'.append (.cons rw' .nil)).intV.2]; exact h3, r'.intV.1 h4, z.its.length - (i + 1), by omega, rfl, hi, by simp; omega, A', S', accW ++ [w], ea', eh', s', r'.append (.cons rw' .nil), hy⟩
  · rintro acc H' A' S' accW hal ea' eh' s' r' ⟨h4, hd⟩
    exact ⟨A', S', accW, ea', eh', s', r', h4, hd⟩
  · have e : GX.sumU us = sumW accW := by rw [GX.sum_eq rv (r'.intV.1 hi), r'.intV.2]
    exact ⟨.int (GX.sumU us), H', I', ⟨t, rfl⟩, hQ _ _ ((Aft.here s'' (.int _) (by rw [e]; exact kc)).on (ea.trans ea') (eh.trans eh'))⟩
end
end Z

set_option maxHeartbeats 2000000
/-! Z15: sum, max, min of lists; range with a step; list(range), tuple(range); xs[i] op= e; zip, reversed. -/
namespace Z
open PySem PySem.Spec PyProof.Rows L2
section
variable {X : Cx} {TB : List Addr} {tg a b c e o i : Expr} {te to ti : ZE} {ts : ZA} {pos p tpos : Pos}
/-! ### sum, max, min of a list of ints -/
@[irreducible] def qSum : ZC := fun ws S K => Bx (match ws with
  | [.ref n] => ∃ ns : List Int, IsLst S n (ns.map W.int) ∧ K (.int ns.sum) S
  | _ => False)
@[irreducible] def qMax : ZC := fun ws S K => Bx (match ws with
  | [.ref n] => ∃ ns : List Int, IsLst S n (ns.map W.int) ∧ 0 < ns.length ∧ ∀ m, m ∈ ns → (∀ y, y ∈ ns → y ≤ m) → K (.int m) S
  | _ => False)
@[irreducible] def qMin : ZC := fun ws S K => Bx (match ws with
  | [.ref n] => ∃ ns : List Int, IsLst S n (ns.map W.int) ∧ 0 < ns.length ∧ ∀ m, m ∈ ns → (∀ y, y ∈ ns → m ≤ y) → K (.int m) S
  | _ => False)
theorem zc_sum (hc : X.calm = true) : ZOC TB X (.builtin "sum") qSum := by
  refine ⟨fun pins s σ H xs us Q I rv h => ?_⟩
  obtain ⟨A, S, ws, Kc, sk, r, h, hQ⟩ := h
  unfold qSum at h
  replace h := h.ok
  split at h
  · obtain ⟨ns, e1, k⟩ := h
    cases r with
    | cons r1 r =>
      cases r1 with
      | ref h1 =>
        cases r
        obtain ⟨vs, hq, q1⟩ := sk.seq h1 e1
        have e := q1.ints
        subst e
        exact cr_sum hc pins s σ H _ us Q I rv ⟨_, ns, rfl, hq, hQ _ _ (.here sk (.int _) k)⟩
  · exact h.elim
theorem zc_max (hc : X.calm = true) : ZOC TB X (.builtin "max") qMax := by
  refine ⟨fun pins s σ H xs us Q I rv h => ?_⟩
  obtain ⟨A, S, ws, Kc, sk, r, h, hQ⟩ := h
  unfold qMax at h
  replace h := h.ok
  split at h
  · obtain ⟨ns, e1, hl, k⟩ := h
    cases r with
    | cons r1 r =>
      cases r1 with
      | ref h1 =>
        cases r
        obtain ⟨vs, hq, q1⟩ := sk.seq h1 e1
        have e := q1.ints
        subst e
        exact cr_max hc pins s σ H _ us Q I rv ⟨_, ns, rfl, hq, hl, fun m hm hle => hQ _ _ (.here sk (.int _) (k m hm hle))⟩
  · exact h.elim
theorem zc_min (hc : X.calm = true) : ZOC TB X (.builtin "min") qMin := by
  refine ⟨fun pins s σ H xs us Q I rv h => ?_⟩
  obtain ⟨A, S, ws, Kc, sk, r, h, hQ⟩ := h
  unfold qMin at h
  replace h := h.ok
  split at h
  · obtain ⟨ns, e1, hl, k⟩ := h
    cases r with
    | cons r1 r =>
      cases r1 with
      | ref h1 =>
        cases r
        obtain ⟨vs, hq, q1⟩ := sk.seq h1 e1
        have e := q1.ints
        subst e
        exact cr_min hc pins s σ H _ us Q I rv ⟨_, ns, rfl, hq, hl, fun m hm hle => hQ _ _ (.here sk (.int _) (k m hm hle))⟩
  · exact h.elim
theorem s_sum {S : Store} {K : WK} {n : Nat} {ns : List Int} (e : IsLst S n (ns.map W.int)) (h : K (.int ns.sum) S) : qSum [.ref n] S K := by unfold qSum; exact ⟨⟨ns, e, h⟩⟩
theorem s_max {S : Store} {K : WK} {n : Nat} {ns : List Int} (e : IsLst S n (ns.map W.int)) (hl : 0 < ns.length) (h : ∀ m, m ∈ ns → (∀ y, y ∈ ns → y ≤ m) → K (.int m) S) : qMax [.ref n] S K := by unfold qMax; exact ⟨⟨ns, e, hl, h⟩⟩
theorem s_min {S : Store} {K : WK} {n : Nat} {ns : List Int} (e : IsLst S n (ns.map W.int)) (hl : 0 < ns.length) (h : ∀ m, m ∈ ns → (∀ y, y ∈ ns → m ≤ y) → K (.int m) S) : qMin [.ref n] S K := by unfold qMin; exact ⟨⟨ns, e, hl, h⟩⟩

/-! ### range with a step -/
def rangeCW (lo c : Int) (n : Nat) : List W := (List.range n).map fun i => .int (lo + (i : Nat) * c)
theorem rangeCW_length (lo c : Int) (n : Nat) : (rangeCW lo c n).length = n := by simp [rangeCW]
theorem rangeCW_get {lo c : Int} {n i : Nat} (h : i < n) : (rangeCW lo c n)[i]? = some (.int (lo + (i : Nat) * c)) := by simp [rangeCW, h]
theorem rangeCW_inv {lo c : Int} {n i : Nat} {w : W} (h : (rangeCW lo c n)[i]? = some w) : i < n ∧ w = .int (lo + (i : Nat) * c) := by
  have hi : i < n := by
    have := (List.getElem?_eq_some_iff.mp h).1
    rwa [rangeCW_length] at this
  rw [rangeCW_get hi] at h
  exact ⟨hi, (Option.some.inj h).symm⟩
theorem wk_rangeC {K : PySem.W.Frag} {A : List Addr} {H : Hp} {lo c : Int} {n : Nat} : Wk K TB A H ⟨rangeCW lo c n, fun _ => True⟩ (Itc lo c n) := by
  refine ⟨fun i A' S' H' hi ea eh s _ => by rw [rangeCW_length] at hi; exact hi, fun A' S' H' ea eh s _ => Nat.le_of_eq (rangeCW_length _ _ _).symm, fun i A' S' H' x H'' hi ea eh s _ y => ?_⟩
  obtain ⟨rfl, rfl⟩ := y
  rw [rangeCW_length] at hi
  exact ⟨.refl _, s, _, rangeCW_get hi, .int _⟩
@[irreducible] def qRng3 (K : ZIt → Store → Prop) : List W → Store → Prop := fun ws S1 => Bx (∃ (i j c : Int) (n : Nat), ws = [.int i, .int j, .int c] ∧ RgC i j c n ∧ K ⟨rangeCW i c n, fun _ => True⟩ S1)
def zRng3I (ts : ZA) : ZTI := fun L S K => ts L S (qRng3 K)
theorem zi_range3 (hg : Gl X "range") (hm : X.mg "range" = none) (ha : ZPA TB X [a, b, c] ts) (hs : starEach [a, b, c] X.env = (false, eval a X.env) :: starEach [b, c] X.env := by rfl) (hpl : (backTo pos (starEach [b, c] X.env)).any (·.1) = false := by rfl) :
    ZPI TB X tg (.Call (.Name "range" p) [a, b, c] [] pos) (zRng3I ts) :=
  ⟨(pi_range3 hg hm ha.pa hs hpl).conv fun σ H R ⟨L, S, A, Kc, sk, lk, h, hR⟩ => ⟨L, S, A, _, sk, lk, h, fun vs H1 ⟨A1, S1, ws, ea, eh, s1, r, h0⟩ => by
    unfold qRng3 at h0
    obtain ⟨i, j, c, n, e, hc, k⟩ := h0.ok
    subst e
    cases r with
    | cons r1 r =>
      cases r with
      | cons r2 r =>
        cases r with
        | cons r3 r =>
          cases r1
          cases r2
          cases r3
          cases r
          exact ⟨i, j, c, n, rfl, hc, hR _ S1 A1 H1 _ ea eh s1 wk_rangeC k⟩⟩⟩
theorem s_rng3 {KI : ZIt → Store → Prop} {S : Store} {i j c : Int} {n : Nat} (hc : RgC i j c n) (h : KI ⟨rangeCW i c n, fun _ => True⟩ S) : qRng3 KI [.int i, .int j, .int c] S := by unfold qRng3; exact ⟨⟨i, j, c, n, rfl, hc, h⟩⟩

/-! ### list(range(..)), tuple(range(..)) -/
abbrev ZRg := Loc' → Store → (Int → Int → Store → Prop) → Prop
def zRg1 (te : ZE) : ZRg := fun L S K => te L S fun x S1 => onInt (fun n => K 0 n S1) x
def zRg2 (ta tb : ZE) : ZRg := fun L S K => ta L S fun x S1 => tb L S1 fun y S2 => onInt (fun i => onInt (fun j => K i j S2) y) x
def lowRg (K : PySem.W.Frag) (TB : List Addr) (t : ZRg) : L2.St → Hp → (Int → Int → Hp → Prop) → Prop := fun σ H Q => ∃ L S A Kc, SOk K TB A S H ∧ LOk K A H L σ ∧ t L S Kc ∧ ∀ i j H' A' S', AExt A A' → HExt H H' → SOk K TB A' S' H' → Kc i j S' → Q i j H'
structure ZPRg (TB : List Addr) (X : Cx) (e : Expr) (t : ZRg) : Prop where
  pr : PRg X e (lowRg X.K TB t)
theorem prgConv {T T' : L2.St → Hp → (Int → Int → Hp → Prop) → Prop} (h : PRg X e T) (c : ∀ σ H Q, T' σ H Q → T σ H Q) : PRg X e T' := fun pins s σ H Q I q => h pins s σ H Q I (c σ H Q q)
theorem zrg_1 {ta : ZE} (hg : Gl X "range") (hm : X.mg "range" = none) (ha : ZPE TB X a ta) (na : starEach [a] X.env = (false, eval a X.env) :: starEach [] X.env := by rfl) : ZPRg TB X (.Call (.Name "range" p) [a] [] pos) (zRg1 ta) :=
  ⟨prgConv (prg_1 hg hm ha.pe na) fun σ H Q ⟨L, S, A, Kc, sk, lk, h, hQ⟩ => ⟨L, S, A, _, sk, lk, h, fun v H1 ⟨A1, S1, w, ea, eh, s1, r, h0⟩ => by
    obtain ⟨i, e, k⟩ := onInt_ex h0
    subst e
    cases r
    exact ⟨i, rfl, hQ _ _ H1 A1 S1 ea eh s1 k⟩⟩⟩
theorem zrg_2 {ta tb : ZE} (hg : Gl X "range") (hm : X.mg "range" = none) (ha : ZPE TB X a ta) (hb : ZPE TB X b tb) (na : starEach [a, b] X.env = (false, eval a X.env) :: starEach [b] X.env := by rfl) (nb : starEach [b] X.env = (false, eval b X.env) :: starEach [] X.env := by rfl) (hpl : (backTo pos (starEach [b] X.env)).any (·.1) = false := by rfl) : ZPRg TB X (.Call (.Name "range" p) [a, b] [] pos) (zRg2 ta tb) :=
  ⟨prgConv (prg_2 hg hm ha.pe hb.pe na nb hpl) fun σ H Q ⟨L, S, A, Kc, sk, lk, h, hQ⟩ => ⟨L, S, A, _, sk, lk, h, fun v H1 ⟨A1, S1, w, ea, eh, s1, r, h0⟩ =>
    ⟨L, S1, A1, _, s1, lk.mono ea eh, h0, fun v2 H2 ⟨A2, S2, w2, ea2, eh2, s2, r2, h1⟩ => by
      obtain ⟨i, e, k⟩ := onInt_ex h1
      subst e
      obtain ⟨j, e, k⟩ := onInt_ex k
      subst e
      cases r
      cases r2
      exact ⟨i, j, rfl, rfl, hQ _ _ H2 A2 S2 (ea.trans ea2) (eh.trans eh2) s2 k⟩⟩⟩⟩
theorem reps_rg {K : PySem.W.Frag} {A : List Addr} {H : Hp} (i j : Int) : Reps K A H (rangeW i (j - i).toNat) (rgV i j) := by
  unfold rangeW rgV
  generalize List.range (j - i).toNat = l
  induction l with
  | nil => exact .nil
  | cons x l ih => exact .cons (.int _) ih
@[irreducible] def qLstRg : Int → Int → Store → WK → Prop := fun i j S K => Bx (RgOk i j ∧ K (.ref S.length) (S ++ [.lst (rangeW i (j - i).toNat)]))
@[irreducible] def qTupRg : Int → Int → Store → WK → Prop := fun i j S K => Bx (RgOk i j ∧ K (.tup (rangeW i (j - i).toNat)) S)
def zLstRg (t : ZRg) : ZE := fun L S K => t L S fun i j S1 => qLstRg i j S1 K
def zTupRg (t : ZRg) : ZE := fun L S K => t L S fun i j S1 => qTupRg i j S1 K
theorem z_lstRg {tr : ZRg} (hc : X.calm = true) (hg : Gl X "list") (hm : X.mg "list" = none) (he : ZPRg TB X e tr) (na : starEach [e] X.env = (false, eval e X.env) :: starEach [] X.env := by rfl) : ZPE TB X (.Call (.Name "list" p) [e] [] pos) (zLstRg tr) :=
  ⟨(pe_listRg hc hg hm he.pr na).conv fun σ H Q ⟨L, S, A, Kc, sk, lk, h, hQ⟩ => ⟨L, S, A, _, sk, lk, h, fun i j H1 A1 S1 ea eh s1 h1 => by
    unfold qLstRg at h1
    obtain ⟨ok, k⟩ := h1.ok
    exact ⟨ok, fun q nq => hQ _ _ ((Aft.lst s1 (reps_rg i j) nq k).on ea eh)⟩⟩⟩
theorem z_tupRg {tr : ZRg} (hc : X.calm = true) (hg : Gl X "tuple") (hm : X.mg "tuple" = none) (he : ZPRg TB X e tr) (na : starEach [e] X.env = (false, eval e X.env) :: starEach [] X.env := by rfl) : ZPE TB X (.Call (.Name "tuple" p) [e] [] pos) (zTupRg tr) :=
  ⟨(pe_tupRg hc hg hm he.pr na).conv fun σ H Q ⟨L, S, A, Kc, sk, lk, h, hQ⟩ => ⟨L, S, A, _, sk, lk, h, fun i j H1 A1 S1 ea eh s1 h1 => by
    unfold qTupRg at h1
    obtain ⟨ok, k⟩ := h1.ok
    exact ⟨ok, fun q nq => hQ _ _ ((Aft.tup s1 (reps_rg i j) nq k).on ea eh)⟩⟩⟩
theorem s_lstRg {S : Store} {K : WK} {i j : Int} (h0 : 0 ≤ i ∧ i ≤ 16777216 ∧ 0 ≤ j ∧ j ≤ 16777216) (h : K (.ref S.length) (S ++ [.lst (rangeW i (j - i).toNat)])) : qLstRg i j S K := by unfold qLstRg; exact ⟨⟨RgOk.of_le h0.1 h0.2.2.2 h0.2.1 h0.2.2.1, h⟩⟩
theorem s_tupRg {S : Store} {K : WK} {i j : Int} (h0 : 0 ≤ i ∧ i ≤ 16777216 ∧ 0 ≤ j ∧ j ≤ 16777216) (h : K (.tup (rangeW i (j - i).toNat)) S) : qTupRg i j S K := by unfold qTupRg; exact ⟨⟨RgOk.of_le h0.1 h0.2.2.2 h0.2.1 h0.2.2.1, h⟩⟩

/-! ### xs[i] op= e -/
@[irreducible] def qGetL : Z2' := fun x y S K => Bx (match x, y with
  | .ref n, .int i => ∃ xs, IsLst S n xs ∧ ∃ w, atI xs i = some w ∧ K w S
  | _, _ => False)
def zAugS (to ti te : ZE) (r : Z2') : ZS := fun D L S => to L S fun o S1 => ti L S1 fun i S2 => qGetL o i S2 fun x S3 => te L S3 fun y S4 => r x y S4 fun z S5 => qSetL o i z S5 fun S6 => D.nx L S6
def lowSetL (K : PySem.W.Frag) (TB : List Addr) : TSet := fun o i v H Q => ∃ A S wo wi wv Kc, SOk K TB A S H ∧ Rep K A H wo o ∧ Rep K A H wi i ∧ Rep K A H wv v ∧ qSetL wo wi wv S Kc ∧ ∀ A' S' H', AExt A A' → HExt H H' → SOk K TB A' S' H' → Kc S' → Q H'
theorem pset_z : PSet X (lowSetL X.K TB) := by
  intro pins s σ H o i v ov iv u Q I ro ri rv ⟨A, S, wo, wi, wv, Kc, sk, r1, r2, r3, h, hQ⟩
  unfold qSetL at h
  replace h := h.ok
  split at h
  · obtain ⟨xs, j, e1, e2, k⟩ := h
    cases r1 with
    | ref ha1 =>
      cases r2
      obtain ⟨vs, f, q⟩ := sk.lst ha1 e1
      refine set_list pins s σ H _ _ v ov iv u Q I ro ri rv ⟨_, _, _, j, rfl, rfl, f, by rw [← q.length]; exact e2, ?_⟩
      obtain ⟨s3, eh3⟩ := sk.write (o' := .lst (xs.set j wv)) (u := .lst (vs.set j v)) ha1 e1 rfl rfl fun eh => .lst' upd_same ((Reps.set r3 j q).mono (.refl _) eh)
      exact hQ A _ _ (.refl _) eh3 s3 k
  · exact h.elim
theorem pget_z : PGet X (low2 X.K TB qGetL) := by
  intro pins s σ H o i ov iv Q I ro ri h
  obtain ⟨A, S, wx, wy, Kc, sk, r1, r2, h, hQ⟩ := h
  unfold qGetL at h
  replace h := h.ok
  split at h
  · obtain ⟨xs, hl, w, e, k⟩ := h
    cases r1 with
    | ref h1 =>
      cases r2
      obtain ⟨vs, hq, q1⟩ := sk.seq h1 hl
      obtain ⟨z, he, rz⟩ := q1.atI e
      cases ro
      obtain ⟨t, rfl⟩ := ri
      obtain ⟨its, r, pl, hz⟩ := I.list hq
      obtain ⟨j, h1, h2, h3, h4, h5⟩ := atI_get he
      obtain ⟨w', ew, rw'⟩ := r.get h2
      have hl := r.length
      have hn := line63
      rename_i i' _ _ _
      have fin : EP X pins σ Q w' s := ⟨z, H, I, rw', hQ _ _ (.here sk rz k)⟩
      by_cases h0 : 0 ≤ i'
      · have hj : i'.toNat = j := by
          rw [seqIndex_of h0 h5] at h1
          exact Option.some.inj h1
        exact wpAny_getItem_list pl.isList h0 (by omega) (by rw [hj]; simpa using ew) fin
      · have hj : (i' + (its.toArray.size : Int)).toNat = j := by
          rw [seqIndex_neg (by omega) h4] at h1
          rw [List.size_toArray, ← hl]
          exact Option.some.inj h1
        exact wpAny_getItem_list_neg pl.isList (by omega) (by rw [List.size_toArray] <;> omega) (by omega) (by rw [hj]; simpa using ew) fin
  · exact h.elim
theorem z_augS {op : Operator} {r : Z2'} (ho : ZPE TB X o to) (hi : ZPE TB X i ti) (he : ZPE TB X e te) (hp : ZIP TB X op r)
    (ha : ∀ ov iv new, augStore i ov iv new = (do holding [new, ov, iv] (setItem ov iv new); release [new, ov, iv] []; pure .next) := by intros; rfl) : ZPS TB X (.AugAssign (.Subscript o i tpos) op e pos) (zAugS to ti te r) :=
  ⟨(ps_augS ho.pe hi.pe pget_z he.pe hp.ok pset_z ha).conv fun D σ H ⟨L, S, A, ZD, s, l, h, k1, _⟩ => ⟨L, S, A, _, s, l, h, fun v1 H1 ⟨A1, S1, w1, ea1, eh1, s1, r1, h1⟩ =>
    ⟨L, S1, A1, _, s1, l.mono ea1 eh1, h1, fun v2 H2 ⟨A2, S2, w2, ea2, eh2, s2, r2, h2⟩ =>
      ⟨A2, S2, w1, w2, _, s2, r1.mono ea2 eh2, r2, h2, fun v3 H3 ⟨A3, S3, w3, ea3, eh3, s3, r3, h3⟩ =>
        ⟨L, S3, A3, _, s3, l.mono ((ea1.trans ea2).trans ea3) ((eh1.trans eh2).trans eh3), h3, fun v4 H4 ⟨A4, S4, w4, ea4, eh4, s4, r4, h4⟩ =>
          ⟨A4, S4, w3, w4, _, s4, r3.mono ea4 eh4, r4, h4, fun v5 H5 ⟨A5, S5, w5, ea5, eh5, s5, r5, h5⟩ =>
            ⟨A5, S5, w1, w2, w5, _, s5, r1.mono (((ea2.trans ea3).trans ea4).trans ea5) (((eh2.trans eh3).trans eh4).trans eh5), r2.mono ((ea3.trans ea4).trans ea5) ((eh3.trans eh4).trans eh5), r5, h5, fun A6 S6 H6 ea6 eh6 s6 h6 =>
              k1 _ _ ⟨A6, S6, L, ((((ea1.trans ea2).trans ea3).trans ea4).trans ea5).trans ea6, ((((eh1.trans eh2).trans eh3).trans eh4).trans eh5).trans eh6, s6, l.mono (((((ea1.trans ea2).trans ea3).trans ea4).trans ea5).trans ea6) (((((eh1.trans eh2).trans eh3).trans eh4).trans eh5).trans eh6), h6⟩⟩⟩⟩⟩⟩⟩⟩
theorem q_getL {S : Store} {K : WK} {n : Nat} {xs : List W} {i : Int} {w : W} (e : IsLst S n xs) (e2 : atI xs i = some w) (h : K w S) : qGetL (.ref n) (.int i) S K := by unfold qGetL; exact ⟨⟨xs, e, w, e2, h⟩⟩

/-! ### zip of two lists, of two tuples; reversed -/
def zipW (xs ys : List W) : List W := (xs.zip ys).map fun p => .tup [p.1, p.2]
theorem zipW_length (xs ys : List W) : (zipW xs ys).length = min xs.length ys.length := by simp [zipW]
theorem zipW_get {xs ys : List W} {i : Nat} {w : W} : (zipW xs ys)[i]? = some w ↔ ∃ x y, xs[i]? = some x ∧ ys[i]? = some y ∧ w = .tup [x, y] := by
  unfold zipW
  rw [List.getElem?_map, Option.map_eq_some_iff]
  constructor
  · rintro ⟨p, hp, rfl⟩
    obtain ⟨h1, h2⟩ := List.getElem?_zip_eq_some.mp hp
    exact ⟨p.1, p.2, h1, h2, rfl⟩
  · rintro ⟨x, y, h1, h2, rfl⟩
    exact ⟨(x, y), List.getElem?_zip_eq_some.mpr ⟨h1, h2⟩, rfl⟩
theorem wk_zipT {K : PySem.W.Frag} {A : List Addr} {H : Hp} {xs ys : List W} {vs us : List V} {a b : Addr} (h1 : TupAt K H a vs) (r1 : Reps K A H xs vs) (h2 : TupAt K H b us) (r2 : Reps K A H ys us) (inj : ∀ {H' : Hp} {a : Addr} {xs ys : List V}, TupAt K H' a xs → SqT K H' a ys → True) : Wk K TB A H ⟨zipW xs ys, fun _ => True⟩ (RZ.ItzT K a b) := by
  refine ⟨fun i A' S' H' hi ea eh s _ => ?_, fun A' S' H' ea eh s _ => ⟨vs, us, (h1.mono eh).sq, (h2.mono eh).sq, ?_⟩, fun i A' S' H' x H'' hi ea eh s _ y => ?_⟩
  · rw [zipW_length] at hi
    have q1 := r1.length
    have q2 := r2.length
    exact ⟨vs, us, vs[i]'(by omega), us[i]'(by omega), (h1.mono eh).sq, (h2.mono eh).sq, List.getElem?_eq_getElem _, List.getElem?_eq_getElem _⟩
  · rw [zipW_length, ← r1.length, ← r2.length]; omega
  · obtain ⟨T, x1, y1, rfl, nT, rfl, y2, y3⟩ := y
    have e1 := y2 vs (h1.mono eh).sq
    have e2 := y3 us (h2.mono eh).sq
    obtain ⟨w1, f1, g1⟩ := (r1.mono ea eh).get' e1
    obtain ⟨w2, f2, g2⟩ := (r2.mono ea eh).get' e2
    exact ⟨.new nT, s.laid nT, _, zipW_get.mpr ⟨w1, w2, f1, f2, rfl⟩, .tup (.inl upd_same) (.cons (g1.mono (.refl _) (.new nT)) (.cons (g2.mono (.refl _) (.new nT)) .nil))⟩
theorem wk_zipL {K : PySem.W.Frag} {A : List Addr} {H : Hp} {xs ys : List W} {a b : Addr} {n m : Nat} (ha : A[n]? = some a) (hb : A[m]? = some b) : Wk K TB A H ⟨zipW xs ys, fun S' => IsLst S' n xs ∧ IsLst S' m ys⟩ (Itz K a b) := by
  refine ⟨fun i A' S' H' hi ea eh s ⟨g1, g2⟩ => ?_, fun A' S' H' ea eh s ⟨g1, g2⟩ => ?_, fun i A' S' H' x H'' hi ea eh s ⟨g1, g2⟩ y => ?_⟩
  · obtain ⟨vs, q1, r1⟩ := s.seq (ea _ _ ha) g1
    obtain ⟨us, q2, r2⟩ := s.seq (ea _ _ hb) g2
    rw [zipW_length] at hi
    have l1 := r1.length
    have l2 := r2.length
    exact ⟨vs, us, vs[i]'(by omega), us[i]'(by omega), q1, q2, List.getElem?_eq_getElem _, List.getElem?_eq_getElem _⟩
  · obtain ⟨vs, q1, r1⟩ := s.seq (ea _ _ ha) g1
    obtain ⟨us, q2, r2⟩ := s.seq (ea _ _ hb) g2
    refine ⟨vs, us, q1, q2, ?_⟩
    rw [zipW_length, ← r1.length, ← r2.length]; omega
  · obtain ⟨T, x1, y1, rfl, nT, rfl, y2, y3⟩ := y
    obtain ⟨vs, q1, r1⟩ := s.seq (ea _ _ ha) g1
    obtain ⟨us, q2, r2⟩ := s.seq (ea _ _ hb) g2
    have e1 := y2 vs q1
    have e2 := y3 us q2
    obtain ⟨w1, f1, k1⟩ := r1.get' e1
    obtain ⟨w2, f2, k2⟩ := r2.get' e2
    exact ⟨.new nT, s.laid nT, _, zipW_get.mpr ⟨w1, w2, f1, f2, rfl⟩, .tup (.inl upd_same) (.cons (k1.mono (.refl _) (.new nT)) (.cons (k2.mono (.refl _) (.new nT)) .nil))⟩
@[irreducible] def qZipI (K : ZIt → Store → Prop) : List W → Store → Prop := fun ws S1 => Bx ((∃ xs ys, ws = [.tup xs, .tup ys] ∧ K ⟨zipW xs ys, fun _ => True⟩ S1) ∨ ∃ n m xs ys, ws = [.ref n, .ref m] ∧ IsLst S1 n xs ∧ IsLst S1 m ys ∧ K ⟨zipW xs ys, fun S' => IsLst S' n xs ∧ IsLst S' m ys⟩ S1)
def zZipI (ts : ZA) : ZTI := fun L S K => ts L S (qZipI K)
theorem zi_zip {elts : List Expr} {kk : Nat} (hg : Gl X "zip") (hm : X.mg "zip" = none) (ha : ZPA TB X [a, b] ts) (hs : starEach [a, b] X.env = (false, eval a X.env) :: starEach [b] X.env := by rfl) (hpl : (backTo pos (starEach [b] X.env)).any (·.1) = false := by rfl) :
    ZPI TB X (.Tuple elts kk tpos) (.Call (.Name "zip" p) [a, b] [] pos) (zZipI ts) :=
  ⟨(RZ.pi_zipA hg hm ha.pa hs hpl).conv fun σ H R ⟨L, S, A, Kc, sk, lk, h, hR⟩ => ⟨L, S, A, _, sk, lk, h, fun vs H1 ⟨A1, S1, ws, ea, eh, s1, r, h0⟩ => by
    unfold qZipI at h0
    rcases h0.ok with ⟨xs, ys, rfl, k⟩ | ⟨n, m, xs, ys, rfl, hl, hl2, k⟩
    · cases r with
      | cons r1 r =>
        cases r with
        | cons r2 r =>
          cases r
          cases r1 with
          | tup h1 q1 =>
            cases r2 with
            | tup h2 q2 => exact ⟨_, _, _, _, rfl, .inr ⟨h1.sq, h2.sq, hR _ S1 A1 H1 _ ea eh s1 (wk_zipT h1 q1 h2 q2 fun _ _ => trivial) k⟩⟩
    · cases r with
      | cons r1 r =>
        cases r with
        | cons r2 r =>
          cases r
          cases r1 with
          | ref h1 =>
            cases r2 with
            | ref h2 =>
              obtain ⟨vs, hq, q1⟩ := s1.seq h1 hl
              obtain ⟨us, hq2, q2⟩ := s1.seq h2 hl2
              exact ⟨_, _, _, _, rfl, .inl ⟨hq, hq2, hR _ S1 A1 H1 _ ea eh s1 (wk_zipL h1 h2) k⟩⟩⟩⟩
theorem s_zip_tup {KI : ZIt → Store → Prop} {xs ys : List W} {S : Store} (h : KI ⟨zipW xs ys, fun _ => True⟩ S) : qZipI KI [.tup xs, .tup ys] S := by unfold qZipI; exact ⟨.inl ⟨xs, ys, rfl, h⟩⟩
theorem s_zip_ref {KI : ZIt → Store → Prop} {n m : Nat} {xs ys : List W} {S : Store} (e : IsLst S n xs) (e2 : IsLst S m ys) (h : KI ⟨zipW xs ys, fun S' => IsLst S' n xs ∧ IsLst S' m ys⟩ S) : qZipI KI [.ref n, .ref m] S := by unfold qZipI; exact ⟨.inr ⟨n, m, xs, ys, rfl, e, e2, h⟩⟩
@[irreducible] def qRevI (K : ZIt → Store → Prop) : W → Store → Prop := fun w S1 => Bx ((∃ xs, w = .tup xs ∧ K ⟨xs.reverse, fun _ => True⟩ S1) ∨ ∃ n xs, w = .ref n ∧ IsLst S1 n xs ∧ K ⟨xs.reverse, fun S' => IsLst S' n xs⟩ S1)
def zRevI (te : ZE) : ZTI := fun L S K => te L S fun w S1 => qRevI K w S1
theorem rev_get {α : Type} {xs : List α} {i : Nat} (h : i < xs.length) : xs.reverse[i]? = xs[xs.length - 1 - i]? := by rw [List.getElem?_reverse h]
theorem zi_rev (hg : Gl X "reversed") (hm : X.mg "reversed" = none) (he : ZPE TB X e te) (hs : starEach [e] X.env = (false, eval e X.env) :: starEach [] X.env := by rfl) : ZPI TB X tg (.Call (.Name "reversed" p) [e] [] pos) (zRevI te) :=
  ⟨(RT.pi_revA hg hm he.pe hs).conv fun σ H R ⟨L, S, A, Kc, sk, lk, h, hR⟩ => ⟨L, S, A, _, sk, lk, h, fun v H1 ⟨A1, S1, w, ea, eh, s1, r, h0⟩ => by
    unfold qRevI at h0
    rcases h0.ok with ⟨xs, rfl, k⟩ | ⟨n, xs, rfl, hl, k⟩
    · cases r with
      | @tup a _ vs h1 q1 =>
        refine ⟨a, vs, rfl, .inr ⟨h1.sq, hR _ S1 A1 H1 _ ea eh s1 ?_ k⟩⟩
        have hlen := q1.length
        refine ⟨fun i A' S' H' hi ea eh s _ => ?_, fun A' S' H' ea eh s _ => ?_, fun i A' S' H' x H'' hi ea eh s _ y => ?_⟩
        · rw [List.length_reverse] at hi
          exact ⟨by omega, vs, vs[vs.length - 1 - i]'(by omega), (h1.mono eh).sq, List.getElem?_eq_getElem _⟩
        · show vs.length ≤ _
          rw [List.length_reverse]; omega
        · obtain ⟨rfl, y⟩ := y
          have e1 := y vs (h1.mono eh).sq
          rw [List.length_reverse] at hi
          obtain ⟨w, e2, e3⟩ := (q1.mono ea eh).get' e1
          exact ⟨.refl _, s, w, by rw [rev_get hi, hlen]; exact e2, e3⟩
    · cases r with
      | @ref a _ h1 =>
        obtain ⟨vs, hq, q1⟩ := s1.seq h1 hl
        refine ⟨a, vs, rfl, .inl ⟨hq, hR _ S1 A1 H1 _ ea eh s1 ?_ k⟩⟩
        have hlen := q1.length
        refine ⟨fun i A' S' H' hi ea eh s g => ?_, fun A' S' H' ea eh s _ => ?_, fun i A' S' H' x H'' hi ea eh s g y => ?_⟩
        · obtain ⟨us, q, r⟩ := s.seq (ea _ _ h1) g
          have := r.length
          rw [List.length_reverse] at hi
          exact ⟨by omega, us, us[vs.length - 1 - i]'(by omega), q, List.getElem?_eq_getElem _⟩
        · show vs.length ≤ _
          rw [List.length_reverse]; omega
        · obtain ⟨rfl, y⟩ := y
          obtain ⟨us, q, r⟩ := s.seq (ea _ _ h1) g
          have e1 := y us q
          rw [List.length_reverse] at hi
          obtain ⟨w, e2, e3⟩ := r.get' e1
          exact ⟨.refl _, s, w, by rw [rev_get hi, hlen]; exact e2, e3⟩⟩⟩
theorem s_rev_tup {KI : ZIt → Store → Prop} {xs : List W} {S : Store} (h : KI ⟨xs.reverse, fun _ => True⟩ S) : qRevI KI (.tup xs) S := by unfold qRevI; exact ⟨.inl ⟨xs, rfl, h⟩⟩
theorem s_rev_ref {KI : ZIt → Store → Prop} {n : Nat} {xs : List W} {S : Store} (e : IsLst S n xs) (h : KI ⟨xs.reverse, fun S' => IsLst S' n xs⟩ S) : qRevI KI (.ref n) S := by unfold qRevI; exact ⟨.inr ⟨n, xs, rfl, e, h⟩⟩
end
end Z

set_option maxHeartbeats 2000000
/-! Z16: list comprehensions of two clauses. -/
namespace Z
open PySem PySem.Spec PyProof.Rows L2
/-- a clause's walk that fills the list at cell n, from acc on -/
@[irreducible] def LiEnd (n : Nat) (z : ZIt) (g : ZTG) (tt : ZT) (te : ZE) (vs : List Nat) (L : Loc') (acc0 : List W) (S1 : Store) (Kd : List W → Store → Prop) : Prop := Bx (∃ P : Nat → List W → Store → Prop, P 0 acc0 S1 ∧
  (∀ i acc w S2, z.its[i]? = some w → P i acc S2 → z.G S2 ∧ S2[n]? = some (.lst acc) ∧ g w (wipeL L vs) S2 fun L' S3 => tt L' S3 fun b S4 => qIf b (te L' S4 fun y S5 => qPush n acc y S5 (P (i + 1))) (P (i + 1) acc S4)) ∧
  ∀ acc S2, P z.its.length acc S2 → z.G S2 ∧ Kd acc S2)
@[irreducible] def Lc2End (z : ZIt) (g : ZTG) (tt : ZT) (ti1 : ZTI) (g1 : ZTG) (tt1 : ZT) (te : ZE) (vs vs1 : List Nat) (L : Loc') (S1 : Store) (K : WK) : Prop := Bx (∃ P : Nat → List W → Store → Prop, P 0 [] (S1 ++ [.lst []]) ∧
  (∀ i acc w S2, z.its[i]? = some w → P i acc S2 → z.G S2 ∧ g w (wipeL L vs) S2 fun L' S3 => tt L' S3 fun b S4 =>
    qIf b (ti1 L' S4 fun z1 S5 => LiEnd S1.length z1 g1 tt1 te vs1 L' acc S5 (P (i + 1))) (P (i + 1) acc S4)) ∧
  ∀ acc S2, P z.its.length acc S2 → z.G S2 ∧ K (.ref S1.length) S2)
def zLc2 (ti : ZTI) (g : ZTG) (tt : ZT) (ti1 : ZTI) (g1 : ZTG) (tt1 : ZT) (te : ZE) (vs vs1 : List Nat) : ZE := fun L S K => ti L S fun z S1 => Lc2End z g tt ti1 g1 tt1 te vs vs1 L S1 K
section
variable {X : Cx} {TB : List Addr} {tg iter tg1 iter1 : Expr} {pos : Pos} {ti ti1 : ZTI} {g g1 : ZTG} {tt tt1 : ZT} {te : ZE}
theorem lc2_low {K : PySem.W.Frag} {vs vs1 : List Nat} {σ : L2.St} {H : Hp} {Q : VK} (h : low K TB (zLc2 ti g tt ti1 g1 tt1 te vs vs1) σ H Q) : tLc2 (lowI K TB ti) (lowGc K TB vs g) (lowT K TB tt) (lowI K TB ti1) (lowGc K TB vs1 g1) (lowT K TB tt1) (low K TB te) vs vs1 σ H Q := by
  obtain ⟨L, S, A, Kc, sk, lk, h, hQ⟩ := h
  refine ⟨L, S, A, _, sk, lk, h, fun z S1 A1 H1 J ea eh s1 wk h0 D hD => ?_⟩
  unfold Lc2End at h0
  replace h0 := h0.ok
  obtain ⟨P, p0, ps, pd⟩ := h0
  have eaD := AExt.snoc A1 D
  have ehD : HExt H1 (upd H1 D (.lst [])) := .new hD
  have sD : SOk K TB (A1 ++ [D]) (S1 ++ [.lst []]) (upd H1 D (.lst [])) := s1.new hD (.lst' upd_same .nil)
  have hDn : (A1 ++ [D])[S1.length]? = some D := by rw [← s1.len]; simp
  let W' : Nat → Hp → Prop := fun i H' => ∃ A' S' acc, AExt (A1 ++ [D]) A' ∧ HExt (upd H1 D (.lst [])) H' ∧ SOk K TB A' S' H' ∧ P i acc S'
  refine ⟨fun i m H' => m = z.its.length - i ∧ i ≤ z.its.length ∧ W' i H', ⟨z.its.length, by simp, Nat.zero_le _, _, _, [], .refl _, .refl _, sD, p0⟩, ?_⟩
  rintro i m H2 ⟨rfl, hi2, A2, S2, acc, ea2, eh2, s2, p2⟩
  have EA := eaD.trans ea2
  have EH := ehD.trans eh2
  by_cases hlt : i < z.its.length
  · have hw := List.getElem?_eq_getElem hlt
    obtain ⟨g2, q2⟩ := ps i acc _ S2 hw p2
    refine .inr ⟨wk.go i A2 S2 H2 hlt EA EH s2 g2, W' (i + 1), fun H' n => ⟨z.its.length - (i + 1), by omega, rfl, hlt, n⟩, fun x H3 y => ?_⟩
    obtain ⟨eh3, s3, w, hw', rw'⟩ := wk.yld i A2 S2 H2 x H3 hlt EA EH s2 g2 y
    rw [hw] at hw'
    cases hw'
    refine ⟨wipeL L vs, S2, A2, _, _, s3, ((lk.mono (ea.trans EA) ((eh.trans EH).trans eh3)).wipe vs), rw', q2, fun σ4 H4 ⟨A4, S4, L4, ea4, eh4, s4, l4, q4⟩ e4 => ⟨by rw [e4, wipe_idem], ?_⟩⟩
    refine ⟨L4, S4, A4, _, s4, l4, q4, fun b H5 ⟨A5, S5, ea5, eh5, s5, q5⟩ => ?_⟩
    have EA5 := (ea2.trans ea4).trans ea5
    have EH5 := ((eh2.trans eh3).trans eh4).trans eh5
    cases b with
    | false =>
      dsimp only at q5 ⊢
      rw [qIf_f] at q5
      rw [if_neg Bool.false_ne_true]
      exact ⟨A5, S5, acc, EA5, EH5, s5, q5⟩
    | true =>
      dsimp only at q5 ⊢
      rw [qIf_t] at q5
      rw [if_pos rfl]
      refine ⟨L4, S5, A5, _, s5, l4.mono ea5 eh5, q5, fun z1 S6 A6 H6 J1 ea6 eh6 s6 wk1 h6 => ?_⟩
      unfold LiEnd at h6
      obtain ⟨P1, p10, ps1, pd1⟩ := h6.ok
      have EA6 := EA5.trans ea6
      have EH6 := EH5.trans eh6
      let W1 : Nat → Hp → Prop := fun j H' => ∃ A' S' acc, AExt A6 A' ∧ HExt H6 H' ∧ SOk K TB A' S' H' ∧ P1 j acc S'
      refine ⟨fun j m H' => m = z1.its.length - j ∧ j ≤ z1.its.length ∧ W1 j H', ⟨z1.its.length, by simp, Nat.zero_le _, A6, S6, acc, .refl _, .refl _, s6, p10⟩, ?_⟩
      rintro j m H7 ⟨rfl, hj2, A7, S7, acc1, ea7, eh7, s7, p7⟩
      by_cases hlt1 : j < z1.its.length
      · have hw1 := List.getElem?_eq_getElem hlt1
        obtain ⟨g7, hS7, q7⟩ := ps1 j acc1 _ S7 hw1 p7
        refine .inr ⟨wk1.go j A7 S7 H7 hlt1 ea7 eh7 s7 g7, W1 (j + 1), fun H' n => ⟨z1.its.length - (j + 1), by omega, rfl, hlt1, n⟩, fun x1 H8 y1 => ?_⟩
        obtain ⟨eh8, s8, w1, hw1', rw1⟩ := wk1.yld j A7 S7 H7 x1 H8 hlt1 ea7 eh7 s7 g7 y1
        rw [hw1] at hw1'
        cases hw1'
        refine ⟨wipeL L4 vs1, S7, A7, _, _, s8, ((l4.mono ((ea5.trans ea6).trans ea7) (((eh5.trans eh6).trans eh7).trans eh8)).wipe vs1), rw1, q7, fun σ9 H9 ⟨A9, S9, L9, ea9, eh9, s9, l9, q9⟩ e9 => ⟨by rw [e9, wipe_idem], ?_⟩⟩
        refine ⟨L9, S9, A9, _, s9, l9, q9, fun b H10 ⟨A10, S10, ea10, eh10, s10, q10⟩ => ?_⟩
        have EA10 := (ea7.trans ea9).trans ea10
        have EH10 := ((eh7.trans eh8).trans eh9).trans eh10
        cases b with
        | false =>
          dsimp only at q10 ⊢
          rw [qIf_f] at q10
          rw [if_neg Bool.false_ne_true]
          exact ⟨A10, S10, acc1, EA10, EH10, s10, q10⟩
        | true =>
          dsimp only at q10 ⊢
          rw [qIf_t] at q10
          rw [if_pos rfl]
          refine ⟨L9, S10, A10, _, s10, l9.mono ea10 eh10, q10, fun v11 H11 ⟨A11, S11, w11, ea11, eh11, s11, r11, p11⟩ => ?_⟩
          unfold qPush at p11
          obtain ⟨hS11, hz, p12⟩ := p11.ok
          have hA11 := (((EA6.trans EA10).trans ea11)) _ _ hDn
          obtain ⟨us, f, q⟩ := s11.lst hA11 hS11
          refine ⟨us, f, by rw [← q.length]; exact hz, ?_⟩
          obtain ⟨s12, eh12⟩ := s11.write (o' := .lst (acc1 ++ [w11])) (u := .lst (us ++ [v11])) hA11 hS11 rfl rfl fun eh => .lst' upd_same ((q.append (.cons r11 .nil)).mono (.refl _) eh)
          exact ⟨A11, _, acc1 ++ [w11], EA10.trans ea11, (EH10.trans eh11).trans eh12, s12, p12⟩
      · have e : j = z1.its.length := by omega
        subst e
        obtain ⟨g7, q7⟩ := pd1 acc1 S7 p7
        exact .inl ⟨wk1.stop A7 S7 H7 ea7 eh7 s7 g7, A7, S7, acc1, EA6.trans ea7, EH6.trans eh7, s7, q7⟩
  · have e : i = z.its.length := by omega
    subst e
    obtain ⟨g2, q2⟩ := pd acc S2 p2
    exact .inl ⟨wk.stop A2 S2 H2 EA EH s2 g2, hQ _ _ ⟨A2, S2, .ref S1.length, ea.trans EA, eh.trans EH, s2, .ref (ea2 _ _ hDn), q2⟩⟩
variable {elt : Expr} {ifs ifs1 : List Expr} {scope : Scope} {own : List (Str × Nat)} {vs1 : List Nat}
theorem z_lc2 (hc : X.calm = true) (hN : X.N.Nodup) (hi : ZPI TB X tg iter ti) (ok : BlkOk X.N X.env.scope scope own) (hv : ∀ i ∈ vs1, i ∈ own.map (·.2))
    (hg : ∀ (s : Shared) (H : Hp) (C : Addr) (cl : List (Str × Addr)) (fp : List Addr), ZPGc TB (own.map (·.2)) (X.blk s H scope (compEnvC scope cl C X.env) fp) tg g ∧ ZPTs TB (X.blk s H scope (compEnvC scope cl C X.env) fp) ifs tt ∧ ZPI TB (X.blk s H scope (compEnvC scope cl C X.env) fp) tg1 iter1 ti1 ∧
      ZPGc TB vs1 (X.blk s H scope (compEnvC scope cl C X.env) fp) tg1 g1 ∧ ZPTs TB (X.blk s H scope (compEnvC scope cl C X.env) fp) ifs1 tt1 ∧ ZPE TB (X.blk s H scope (compEnvC scope cl C X.env) fp) elt te)
    (hs : ∀ x, foldedSetIterable iter X.env x = pure x := by intro _; rfl) (hs1 : ∀ env x, foldedSetIterable iter1 env x = pure x := by intro _ _; rfl) :
    ZPE TB X (.ListComp elt [⟨tg, iter, ifs, 0⟩, ⟨tg1, iter1, ifs1, 0⟩] scope pos) (zLc2 ti g tt ti1 g1 tt1 te (own.map (·.2)) vs1) :=
  ⟨(pe_lc2 hc hN hi.pi ok hv (fun s H C cl fp => (hg s H C cl fp).1.pg) (fun s H C cl fp => (hg s H C cl fp).2.1.pt) (fun s H C cl fp => (hg s H C cl fp).2.2.1.pi) (fun s H C cl fp => (hg s H C cl fp).2.2.2.1.pg) (fun s H C cl fp => (hg s H C cl fp).2.2.2.2.1.pt) (fun s H C cl fp => (hg s H C cl fp).2.2.2.2.2.pe) hs hs1).conv fun σ H Q h => lc2_low h⟩
theorem z_setLc2 {i : Nat} {y : Str} {py spos : Pos} (hc : X.calm = true) (hN : X.N.Nodup) (hy : X.N[i]? = some y) (hyl : X.env.scope.names.lookup y = some .local)
    (hsw : swapsWith (.ListComp elt [⟨tg, iter, ifs, 0⟩, ⟨tg1, iter1, ifs1, 0⟩] scope pos) (some (.Name y py)) spos.line X.env = pure true) (hi : ZPI TB X tg iter ti) (ok : BlkOk X.N X.env.scope scope own) (hv : ∀ i ∈ vs1, i ∈ own.map (·.2))
    (hg : ∀ (s : Shared) (H : Hp) (C : Addr) (cl : List (Str × Addr)) (fp : List Addr), ZPGc TB (own.map (·.2)) (X.blk s H scope (compEnvC scope cl C X.env) fp) tg g ∧ ZPTs TB (X.blk s H scope (compEnvC scope cl C X.env) fp) ifs tt ∧ ZPI TB (X.blk s H scope (compEnvC scope cl C X.env) fp) tg1 iter1 ti1 ∧
      ZPGc TB vs1 (X.blk s H scope (compEnvC scope cl C X.env) fp) tg1 g1 ∧ ZPTs TB (X.blk s H scope (compEnvC scope cl C X.env) fp) ifs1 tt1 ∧ ZPE TB (X.blk s H scope (compEnvC scope cl C X.env) fp) elt te)
    (hs : ∀ x, foldedSetIterable iter X.env x = pure x := by intro _; rfl) (hs1 : ∀ env x, foldedSetIterable iter1 env x = pure x := by intro _ _; rfl) :
    ZPS TB X (.Assign [.Name y py] (.ListComp elt [⟨tg, iter, ifs, 0⟩, ⟨tg1, iter1, ifs1, 0⟩] scope pos) spos) (zAsg (zLc2 ti g tt ti1 g1 tt1 te (own.map (·.2)) vs1) (zgName i)) :=
  ⟨(ps_setLc2 hc hN hy hyl hsw hi.pi ok hv (fun s H C cl fp => (hg s H C cl fp).1.pg) (fun s H C cl fp => (hg s H C cl fp).2.1.pt) (fun s H C cl fp => (hg s H C cl fp).2.2.1.pi) (fun s H C cl fp => (hg s H C cl fp).2.2.2.1.pg) (fun s H C cl fp => (hg s H C cl fp).2.2.2.2.1.pt) (fun s H C cl fp => (hg s H C cl fp).2.2.2.2.2.pe) hs hs1).conv fun D σ H ⟨L, S, A, ZD, sk, lk, h, k1, _⟩ =>
    lc2_low ⟨L, S, A, _, sk, lk, h, fun v H' ⟨A1, S1, w, ea, eh, s1, r, q⟩ => k1 _ _ ⟨A1, S1, _, ea, eh, s1, (lk.mono ea eh).set r i, qLet_iff.mp q⟩⟩⟩
end
end Z

set_option maxHeartbeats 2000000
/-! Z17: generator expressions by a function of the item. -/
namespace Z
open PySem PySem.Spec PyProof.Rows L2
section
variable {L : Loc'} {S1 : Store} {K : WK} {te : ZE} {tt : ZT} {g : ZTG} {vs : List Nat} {its : List W} {G : Store → Prop}
theorem glTup (f : W → Option W) (hG : ∀ S, Ext S1 S → G S) (hsz : its.length ≤ sizeLine)
    (turn : ∀ (i : Nat) (w : W) (S2 : Store) (Kt : WK) (Kf : Store → Prop), its[i]? = some w → Ext S1 S2 → (∀ y S5, f w = some y → Ext S2 S5 → Kt y S5) → (∀ S4, f w = none → Ext S2 S4 → Kf S4) → qWipe L vs fun L0 => g w L0 S2 fun L' S3 => tt L' S3 fun b S4 => qIf b (te L' S4 Kt) (Kf S4))
    (done : ∀ S2, Ext S1 S2 → K (.tup (its.filterMap f)) S2) : GlEnd ⟨its, G⟩ g tt te vs L S1 (fun _ _ _ nx => nx) fun acc S => K (.tup acc) S := by
  unfold GlEnd
  refine ⟨hsz, fun i acc S2 => acc = (its.take i).filterMap f ∧ Ext S1 S2, ⟨rfl, Keep.refl _ _⟩, fun i acc w S2 hw ⟨e, k⟩ => ⟨hG _ k, qWipe_eq.mp (turn i w S2 _ _ hw k (fun y S5 ey k5 => ⟨?_, k.trans k5⟩) fun S4 ey k4 => ⟨?_, k.trans k4⟩)⟩, fun acc S2 ⟨e, k⟩ => ⟨hG _ k, ?_⟩⟩
  · subst e
    rw [List.take_add_one, hw, Option.toList_some, List.filterMap_append, List.filterMap_cons_some ey, List.filterMap_nil]
  · subst e
    rw [List.take_add_one, hw, Option.toList_some, List.filterMap_append, List.filterMap_cons_none ey, List.filterMap_nil, List.append_nil]
  · subst e
    rw [List.take_length]
    exact done S2 k
/-- no test, each item gives one -/
theorem glTupM (f : W → W) (hG : ∀ S, Ext S1 S → G S) (hsz : its.length ≤ sizeLine)
    (turn : ∀ (i : Nat) (w : W) (S2 : Store) (Kt : WK) (Kf : Store → Prop), its[i]? = some w → Ext S1 S2 → (∀ S5, Ext S2 S5 → Kt (f w) S5) → qWipe L vs fun L0 => g w L0 S2 fun L' S3 => tt L' S3 fun b S4 => qIf b (te L' S4 Kt) (Kf S4))
    (done : ∀ S2, Ext S1 S2 → K (.tup (its.map f)) S2) : GlEnd ⟨its, G⟩ g tt te vs L S1 (fun _ _ _ nx => nx) fun acc S => K (.tup acc) S :=
  glTup (fun w => some (f w)) hG hsz (fun i w S2 Kt Kf hw k hK _ => turn i w S2 Kt Kf hw k fun S5 k5 => hK _ _ rfl k5) fun S2 k => by
    rw [show its.filterMap (fun w => some (f w)) = its.map f from List.filterMap_eq_map (f := f) ▸ rfl]
    exact done S2 k
/-- any, all: f the truth of the item's element, none where the test refuses -/
theorem glAny (stop : Bool) (f : W → Option Bool) (hG : ∀ S, Ext S1 S → G S) (hsz : its.length ≤ sizeLine)
    (turn : ∀ (i : Nat) (w : W) (S2 : Store) (Kt : WK) (Kf : Store → Prop), its[i]? = some w → Ext S1 S2 → (∀ y b S5, f w = some b → y.truth S5 = some b → Ext S2 S5 → Kt y S5) → (∀ S4, f w = none → Ext S2 S4 → Kf S4) → qWipe L vs fun L0 => g w L0 S2 fun L' S3 => tt L' S3 fun b S4 => qIf b (te L' S4 Kt) (Kf S4))
    (done : ∀ S2, Ext S1 S2 → K (.bl (if its.any (fun w => f w == some stop) then stop else !stop)) S2) : GlEnd ⟨its, G⟩ g tt te vs L S1 (yAny stop K) fun _ S => K (.bl (!stop)) S := by
  unfold GlEnd
  refine ⟨hsz, fun i acc S2 => ((its.take i).any fun w => f w == some stop) = false ∧ Ext S1 S2, ⟨rfl, Keep.refl _ _⟩, fun i acc w S2 hw ⟨e, k⟩ => ⟨hG _ k, qWipe_eq.mp (turn i w S2 _ _ hw k (fun y b S5 ey ht k5 => ?_) fun S4 ey k4 => ⟨?_, k.trans k4⟩)⟩, fun acc S2 ⟨e, k⟩ => ⟨hG _ k, ?_⟩⟩
  · unfold yAny
    rw [ht]
    show qIf (b == stop) _ _
    by_cases hb : b = stop
    · rw [beq_iff_eq.mpr hb, qIf_t]
      have := done S5 (k.trans k5)
      rw [if_pos (List.any_eq_true.mpr ⟨w, List.mem_of_getElem? hw, by rw [ey, hb]; simp⟩)] at this
      exact this
    · rw [beq_eq_false_iff_ne.mpr hb, qIf_f]
      refine ⟨?_, k.trans k5⟩
      rw [List.take_add_one, hw, Option.toList_some, List.any_append, e, List.any_cons, ey]
      simpa using hb
  · rw [List.take_add_one, hw, Option.toList_some, List.any_append, e, List.any_cons, ey]
    simp
  · dsimp only at e
    rw [List.take_length] at e
    have := done S2 k
    rw [if_neg (by rw [e]; exact Bool.false_ne_true)] at this
    exact this
/-- sum: small ints -/
theorem glSum (f : W → Option Int) (B : Int) (hB : 0 ≤ B ∧ B ≤ 274877906944) (hG : ∀ S, Ext S1 S → G S) (hsz : its.length ≤ 16777216) (hf : ∀ w ∈ its, ∀ j, f w = some j → -B ≤ j ∧ j ≤ B)
    (turn : ∀ (i : Nat) (w : W) (S2 : Store) (Kt : WK) (Kf : Store → Prop), its[i]? = some w → Ext S1 S2 → (∀ j S5, f w = some j → Ext S2 S5 → Kt (.int j) S5) → (∀ S4, f w = none → Ext S2 S4 → Kf S4) → qWipe L vs fun L0 => g w L0 S2 fun L' S3 => tt L' S3 fun b S4 => qIf b (te L' S4 Kt) (Kf S4))
    (done : ∀ S2, Ext S1 S2 → K (.int (its.filterMap f).sum) S2) : GlEnd ⟨its, G⟩ g tt te vs L S1 ySum fun acc S => (∀ x ∈ acc, x.isInt = true) ∧ K (.int (sumW acc)) S := by
  have bnd : ∀ l : List W, (∀ w ∈ l, w ∈ its) → -B * (l.length : Int) ≤ (l.filterMap f).sum ∧ (l.filterMap f).sum ≤ B * (l.length : Int) := by
    intro l
    induction l with
    | nil => intro _; simp
    | cons w l ih =>
      intro hl
      obtain ⟨h1, h2⟩ := ih fun x hx => hl x (List.mem_cons_of_mem _ hx)
      rw [List.length_cons, Int.natCast_add, Int.natCast_one, Int.mul_add, Int.mul_add, Int.mul_one, Int.mul_one]
      cases e : f w with
      | none => rw [List.filterMap_cons_none e]; omega
      | some j =>
        have := hf w (hl w List.mem_cons_self) j e
        rw [List.filterMap_cons_some e, List.sum_cons]; omega
  have long : ∀ l : List W, (∀ w ∈ l, w ∈ its) → l.length ≤ its.length → InLong (l.filterMap f).sum := fun l h1 h2 => by
    obtain ⟨a, b⟩ := bnd l h1
    have h3 : (l.length : Int) ≤ 16777216 := by omega
    have h4 : B * (l.length : Int) ≤ 274877906944 * 16777216 := Int.le_trans (Int.mul_le_mul_of_nonneg_left h3 hB.1) (Int.mul_le_mul_of_nonneg_right hB.2 (by decide))
    have h5 : -B * (l.length : Int) = -(B * (l.length : Int)) := Int.neg_mul _ _
    refine ⟨?_, ?_⟩ <;> omega
  have sumE : ∀ l : List W, sumW ((l.filterMap f).map W.int) = (l.filterMap f).sum := fun l => by
    unfold sumW
    rw [List.map_map]
    show ((l.filterMap f).map id).sum = _
    rw [List.map_id]
  unfold GlEnd
  refine ⟨by rw [sizeLine_eq]; exact hsz, fun i acc S2 => acc = ((its.take i).filterMap f).map W.int ∧ Ext S1 S2, ⟨rfl, Keep.refl _ _⟩, fun i acc w S2 hw ⟨e, k⟩ => ⟨hG _ k, qWipe_eq.mp (turn i w S2 _ _ hw k (fun j S5 ey k5 => ?_) fun S4 ey k4 => ⟨?_, k.trans k4⟩)⟩, fun acc S2 ⟨e, k⟩ => ⟨hG _ k, ?_⟩⟩
  · have hil := (List.getElem?_eq_some_iff.mp hw).1
    have e2 : acc ++ [W.int j] = ((its.take (i + 1)).filterMap f).map W.int := by
      subst e
      rw [List.take_add_one, hw, Option.toList_some, List.filterMap_append, List.filterMap_cons_some ey, List.filterMap_nil, List.map_append]
      rfl
    refine ⟨rfl, ?_, ?_, ?_, e2, k.trans k5⟩
    · obtain ⟨a, b⟩ := hf w (List.mem_of_getElem? hw) j ey
      show InLong j
      refine ⟨?_, ?_⟩ <;> omega
    · rw [e2, sumE]
      exact long _ (fun w hw => List.mem_of_mem_take hw) (by rw [List.length_take]; omega)
    · subst e
      intro x hx
      obtain ⟨y, _, rfl⟩ := List.mem_map.mp hx
      rfl
  · subst e
    rw [List.take_add_one, hw, Option.toList_some, List.filterMap_append, List.filterMap_cons_none ey, List.filterMap_nil, List.append_nil]
  · subst e
    refine ⟨fun x hx => ?_, ?_⟩
    · obtain ⟨y, _, rfl⟩ := List.mem_map.mp hx
      rfl
    · rw [sumE, List.take_length]
      exact done S2 k
/-- a list comprehension by what holds of the list and the store together -/
theorem lcP (P : Nat → List W → Store → Prop) (h0 : P 0 [] (S1 ++ [.lst []])) (hc : ∀ i acc S, P i acc S → G S ∧ S[S1.length]? = some (.lst acc) ∧ acc.length ≤ i) (hsz : its.length ≤ sizeLine)
    (turn : ∀ (i : Nat) (acc : List W) (w : W) (S2 : Store) (Kt : WK) (Kf : Store → Prop), its[i]? = some w → P i acc S2 → (∀ y S5, S5[S1.length]? = some (.lst acc) → P (i + 1) (acc ++ [y]) (S5.set S1.length (.lst (acc ++ [y]))) → Kt y S5) → (∀ S4, P (i + 1) acc S4 → Kf S4) →
      qWipe L vs fun L0 => g w L0 S2 fun L' S3 => tt L' S3 fun b S4 => qIf b (te L' S4 Kt) (Kf S4))
    (done : ∀ acc S2, P its.length acc S2 → K (.ref S1.length) S2) : LcEnd ⟨its, G⟩ g tt te vs L S1 K := by
  unfold LcEnd
  refine ⟨P, h0, fun i acc w S2 hw p => ?_, fun acc S2 p => ⟨(hc _ _ _ p).1, done acc S2 p⟩⟩
  obtain ⟨a, b, c⟩ := hc _ _ _ p
  have hil : i < its.length := (List.getElem?_eq_some_iff.mp hw).1
  refine ⟨a, b, qWipe_eq.mp (turn i acc w S2 _ _ hw p (fun y S5 e q => ?_) fun S4 q => q)⟩
  unfold qPush
  exact ⟨e, by omega, q⟩
end
end Z

set_option maxHeartbeats 4000000
/-! Z18: more of family C: a stirred row, lists drawn from the reel. -/
namespace FC
open PySem PySem.Spec PyProof.Rows L2 Z
local macro_rules | `(tactic| tb_start) => `(tactic| first | assumption | exact True.intro | exact ⟨_, _, rfl, by ke_read⟩ | ((with_reducible refine' MulOk.r ?s1 ?s2); (case s1 => (decide)); (case s2 => (decide))) | ((with_reducible refine' DivOk.any ?s1); (case s1 => (assumption))) | ((with_reducible refine' DivOk.small ?s1 ?s2); (case s1 => (decide)); (case s2 => (decide))) | ((with_reducible refine' MulOk.r ?s1 ?s2); (case s1 => (omega)); (case s2 => (omega))) | ((with_reducible refine' MulOk.l ?s1 ?s2); (case s1 => (omega)); (case s2 => (omega))) | ((with_reducible refine' DivOk.small ?s1 ?s2); (case s1 => (omega)); (case s2 => (omega))) | ((with_reducible refine' PowOk.lit ?s1 ?s2 ?s3); (case s1 => (decide)); (case s2 => (decide)); (case s3 => (decide))) | omega | ((with_reducible refine' s_sz ?s1); (case s1 => (first | omega | (simp only [List.length_append, List.length_cons, List.length_nil, List.length_map, List.length_set, List.length_take, List.length_drop, List.length_dropLast] <;> omega)))) | ((with_reducible refine' s_szl ?s1); (case s1 => (first | omega | (simp only [List.length_append, List.length_cons, List.length_nil, List.length_map, List.length_set, List.length_take, List.length_drop, List.length_dropLast] <;> omega)))) | ke_read | ked_read | decide)
local macro_rules | `(tactic| ke_reads) => `(tactic| first | assumption | exact Ne.symm (by assumption) | omega | (simp only [List.length_append, List.length_cons, List.length_nil, List.length_set] at * <;> omega))
local macro_rules | `(tactic| ked_reads) => `(tactic| first | assumption | ((with_reducible refine' lt_of_get ?s1); (case s1 => (ked_read))))
local macro_rules | `(tactic| ked_read) => `(tactic| first | assumption | ((with_reducible refine' List.getElem?_set_self ?s1); (case s1 => (ked_reads))) | ((with_reducible refine' set_ne' ?s1 ?s2); (case s1 => (ke_reads)); (case s2 => (ked_read))) | exact (app_get0 _ _).trans rfl | exact (app_get _ _ _).trans rfl | ((with_reducible refine' app_l ?s1); (case s1 => (ked_read))))
local macro_rules | `(tactic| ke_read) => `(tactic| first | assumption | (apply getL_of; assumption) | ((with_reducible refine' getL_set_self ?s1); (case s1 => (ked_reads))) | exact getL_app00 _ _ _ | exact getL_app1 _ _ _ _ | ((with_reducible refine' getL_set_ne' ?s1 ?s2); (case s1 => (ke_reads)); (case s2 => (ke_read))) | ((with_reducible refine' getL_app_l ?s1); (case s1 => (ke_read))) | exact (getL_app _ _ _).trans rfl)
local macro_rules | `(tactic| kqd_all) => `(tactic| first | assumption | (rw [atI_m1]; first | with_unfolding_all rfl | assumption) | (rw [atI_lit]; first | with_unfolding_all rfl | assumption) | (rw [atI_cast]; assumption) | exact atI_ints (by omega) (by simp only [List.length_map] at *; omega))
local macro_rules | `(tactic| kct_strs) => `(tactic| first | assumption | (rw [ixN_lit, if_pos (by simp)]; done))
local macro_rules | `(tactic| kp_flats) => `(tactic| first | with_reducible refine q_let0 ?_ | with_reducible refine q_let1 ?_ | with_reducible refine q_let2 ?_ | with_reducible refine q_let3 ?_ | with_reducible refine q_let4 ?_ | with_reducible refine q_let5 ?_ | with_reducible refine q_let6 ?_ | with_reducible refine q_let7 ?_ | with_reducible refine q_let8 ?_ | with_reducible refine q_let9 ?_ | with_reducible refine q_let10 ?_ | with_reducible refine q_let11 ?_ | with_reducible refine q_let12 ?_ | with_reducible refine q_let13 ?_ | with_reducible refine q_let14 ?_ | with_reducible refine q_let15 ?_ | with_reducible refine q_let16 ?_ | with_reducible refine q_let17 ?_ | with_reducible refine q_let18 ?_ | with_reducible refine q_let19 ?_ | with_reducible refine q_let20 ?_ | with_reducible refine q_let21 ?_ | with_reducible refine q_let22 ?_ | with_reducible refine q_let23 ?_ | with_reducible refine q_let24 ?_ | with_reducible refine q_let25 ?_ | with_reducible refine q_let26 ?_ | with_reducible refine q_let27 ?_ | with_reducible refine q_let28 ?_ | with_reducible refine q_let29 ?_ | with_reducible refine q_let30 ?_ | with_reducible refine q_let31 ?_ | with_reducible refine q_let32 ?_ | with_reducible refine q_let33 ?_ | with_reducible refine q_let34 ?_ | with_reducible refine q_let35 ?_ | with_reducible refine q_let36 ?_ | with_reducible refine q_let37 ?_ | with_reducible refine q_let38 ?_ | with_reducible refine q_let39 ?_)
local macro_rules | `(tactic| tb_rel) => `(tactic| first | ((with_reducible show qLet _ _ _ _); kp_flats) | ((with_reducible refine' i_dt ?s1 ?_); (case s1 => (first | assumption | rfl))) | ((with_reducible refine' i_df ?s1 ?_); (case s1 => (assumption))) | ((with_reducible refine' i_nf ?s1 ?_); (case s1 => (first | assumption | rfl))) | ((with_reducible refine' i_nt ?s1 ?_); (case s1 => (assumption))) | ((with_reducible refine' i_t ?s1 ?_); (case s1 => (with_unfolding_all rfl))) | ((with_reducible refine' i_f ?s1 ?_); (case s1 => (with_unfolding_all rfl))) | ((with_reducible refine' q_ix_tup ?s1 ?_); (case s1 => (kqd_all))) | ((with_reducible refine' q_ix_ref ?s1 ?s2 ?_); (case s1 => (ke_read)); (case s2 => (kqd_all))) | ((with_reducible refine' q_eq_int ?_)) | ((with_reducible refine' q_ne_int ?_)) | ((with_reducible refine' q_eq_str ?s1 ?s2 ?_); (case s1 => (first | assumption | decide +kernel)); (case s2 => (first | assumption | decide +kernel))) | ((with_reducible refine' q_ne_str ?s1 ?s2 ?_); (case s1 => (first | assumption | decide +kernel)); (case s2 => (first | assumption | decide +kernel))) | ((with_reducible refine' q_len_tup ?_)) | ((with_reducible refine' q_len_ref ?s1 ?_); (case s1 => (ke_read))) | ((with_reducible refine' s_isml ?s1 ?_); (case s1 => (ke_read))) | ((with_reducible refine' q_append2 ?s1 ?s2 ?_); (case s1 => (ked_reads)); (case s2 => (tb_start))) | ((with_reducible refine' q_append0 ?s1 ?_); (case s1 => (tb_start))) | ((with_reducible refine' q_append1 ?s1 ?_); (case s1 => (tb_start))) | ((with_reducible refine' q_append ?s1 ?s2 ?_); (case s1 => (ked_read)); (case s2 => (tb_start))) | ((with_reducible refine' q_cat ?s1 ?s2 ?s3 ?_); (case s1 => (ked_read)); (case s2 => (ked_read)); (case s3 => (tb_start))) | ((with_reducible refine' q_pop0 ?s1 ?_); (case s1 => (ked_read))) | ((with_reducible refine' q_setL2 ?s1 ?s2 ?_); (case s1 => (ked_reads)); (case s2 => (kct_strs))) | ((with_reducible refine' q_setL ?s1 ?s2 ?_); (case s1 => (ked_read)); (case s2 => (kct_strs))) | ((with_reducible refine' q_tup_tup ?_)) | ((with_reducible refine' q_tup_ref ?s1 ?_); (case s1 => (ke_read))) | ((with_reducible refine' q_list_tup ?_)) | ((with_reducible refine' q_list_ref ?s1 ?_); (case s1 => (ke_read))) | ((with_reducible refine' q_sl_tupE ?s1 ?_); (case s1 => (assumption))) | ((with_reducible refine' q_sl_refE ?s1 ?s2 ?_); (case s1 => (ke_read)); (case s2 => (assumption))) | ((with_reducible refine' q_sl_tup ?_)) | ((with_reducible refine' q_sl_ref ?s1 ?_); (case s1 => (ke_read))) | ((with_reducible refine' s_enumI_tup ?_)) | ((with_reducible refine' s_enumI_ref ?s1 ?_); (case s1 => (ke_read))) | ((with_reducible refine' s_seqI_tup ?_)) | ((with_reducible refine' s_seqI_ref ?s1 ?_); (case s1 => (ke_read))) | ((with_reducible refine' q_eq_pn (d := 8) (e := 8) ?s1 ?s2 ?s3 ?s4 ?_); (case s1 => (lsm_bools)); (case s2 => (lsm_bools)); (case s3 => (first | decide | omega)); (case s4 => (first | decide | omega))) | ((with_reducible refine' q_ne_pn (d := 8) (e := 8) ?s1 ?s2 ?s3 ?s4 ?_); (case s1 => (lsm_bools)); (case s2 => (lsm_bools)); (case s3 => (first | decide | omega)); (case s4 => (first | decide | omega))) | ((with_reducible refine' q_eq_lpn (d := 8) (e := 8) ?s1 ?s2 ?s3 ?s4 ?s5 ?s6 ?_); (case s1 => (ke_read)); (case s2 => (ke_read)); (case s3 => (lsm_bools)); (case s4 => (lsm_bools)); (case s5 => (first | decide | omega)); (case s6 => (first | decide | omega))) | ((with_reducible refine' q_ne_lpn (d := 8) (e := 8) ?s1 ?s2 ?s3 ?s4 ?s5 ?s6 ?_); (case s1 => (ke_read)); (case s2 => (ke_read)); (case s3 => (lsm_bools)); (case s4 => (lsm_bools)); (case s5 => (first | decide | omega)); (case s6 => (first | decide | omega))) | ((with_reducible refine' q_is_non ?_)) | ((with_reducible refine' q_isnot_non ?_)) | ((with_reducible refine' q_eq_bl ?_)) | ((with_reducible refine' q_ne_bl ?_)) | ((with_reducible refine' q_isi ?s1 ?s2 ?_); (case s1 => (with_unfolding_all rfl)); (case s2 => (with_unfolding_all rfl))) | ((with_reducible refine' q_in_l (d := 8) (e := 8) ?s1 ?s2 ?s3 ?s4 ?s5 ?_); (case s1 => (ke_read)); (case s2 => (lsm_bools)); (case s3 => (lsm_bools)); (case s4 => (first | decide | omega)); (case s5 => (first | decide | omega))) | ((with_reducible refine' q_in_t (d := 8) (e := 8) ?s1 ?s2 ?s3 ?s4 ?_); (case s1 => (lsm_bools)); (case s2 => (lsm_bools)); (case s3 => (first | decide | omega)); (case s4 => (first | decide | omega))) | ((with_reducible refine' q_notin_l (d := 8) (e := 8) ?s1 ?s2 ?s3 ?s4 ?s5 ?_); (case s1 => (ke_read)); (case s2 => (lsm_bools)); (case s3 => (lsm_bools)); (case s4 => (first | decide | omega)); (case s5 => (first | decide | omega))) | ((with_reducible refine' q_notin_t (d := 8) (e := 8) ?s1 ?s2 ?s3 ?s4 ?_); (case s1 => (lsm_bools)); (case s2 => (lsm_bools)); (case s3 => (first | decide | omega)); (case s4 => (first | decide | omega))) | ((with_reducible refine' q_getL ?s1 ?s2 ?_); (case s1 => (ke_read)); (case s2 => (kqd_all))) | ((with_reducible refine' s_sum ?s1 ?_); (case s1 => (ke_read))) | ((with_reducible refine' s_lstRg ?s1 ?_); (case s1 => (tb_start))) | ((with_reducible refine' s_tupRg ?s1 ?_); (case s1 => (tb_start))) | ((with_reducible refine' s_rng3 ?s1 ?_); (case s1 => (assumption))) | ((with_reducible refine' s_zip_tup ?_)) | ((with_reducible refine' s_zip_ref ?s1 ?s2 ?_); (case s1 => (ke_read)); (case s2 => (ke_read))) | ((with_reducible refine' s_rev_tup ?_)) | ((with_reducible refine' s_rev_ref ?s1 ?_); (case s1 => (ke_read))) | ((with_reducible refine' q_push0 ?s1 ?_); (case s1 => (tb_start))) | ((with_reducible refine' q_push ?s1 ?s2 ?_); (case s1 => (ked_read)); (case s2 => (tb_start))) | ((with_reducible refine' And.intro ?s1 ?_); (case s1 => (tb_start))))
local macro_rules | `(tactic| kbo_bools) => `(tactic| first | with_reducible refine i_d (fun _ => ?_) (fun _ => ?_) | with_reducible refine i_n (fun _ => ?_) (fun _ => ?_))
local macro_rules | `(tactic| keq_rows) => `(tactic| ((conv => whnf); repeat (tb_rel; (conv => whnf))))
local macro_rules | `(tactic| k_upd) => `(tactic| (keq_rows; try (kbo_bools <;> k_upd)))
local macro_rules | `(tactic| kat_tups) => `(tactic| (simp only [startL, List.map_cons, List.map_nil, List.length_cons, List.length_nil, Nat.zero_add, Nat.reduceAdd, Nat.reduceSub, List.reduceReplicate, List.cons_append, List.nil_append]; keq_rows))
local macro_rules | `(tactic| k_updF) => `(tactic| first | assumption | exact Keep.refl _ _ | exact Keep.app _ _ _ | ((with_reducible refine' Keep.app_r ?s1); (case s1 => (k_updF))) | ((with_reducible refine' Keep.set_in ?s1 ?s2); (case s1 => ((simp only [List.mem_cons, true_or, or_true]))); (case s2 => (k_updF))) | ((with_reducible refine' Keep.set_new ?s1 ?s2); (case s1 => (first | omega | (simp only [List.length_append, List.length_cons, List.length_nil, List.length_set] at * <;> omega))); (case s2 => (k_updF))) | exact Ext.keep (by assumption) | ((with_reducible refine' Keep.trans ?a (by assumption)); (case a => (k_updF))) | ((with_reducible refine' Keep.trans ?a (Ext.keep (by assumption))); (case a => (k_updF))))
local macro_rules | `(tactic| lsm_bools) => `(tactic| first | assumption | exact Pl.int _ _ | exact Pn.int _ _ | ((with_reducible refine' Pl.str _ _ ?s1); (case s1 => (first | assumption | decide +kernel))) | ((with_reducible refine' Pn.str _ _ ?s1); (case s1 => (first | assumption | decide +kernel))) | exact Pn.non _ | exact Pl.non _ | exact Pl.bl _ _ | exact Pns.nil _ | exact Pls.nil _ | ((with_reducible refine' Pls.cons ?s1 ?s2); (case s1 => (lsm_bools)); (case s2 => (lsm_bools))) | ((with_reducible refine' Pns.cons ?s1 ?s2); (case s1 => (lsm_bools)); (case s2 => (lsm_bools))) | ((with_reducible refine' Pl.tup ?s1 ?s2); (case s1 => (first | omega | (simp only [List.length_append, List.length_cons, List.length_nil, List.length_map, List.length_set, List.length_take, List.length_drop, List.length_dropLast] <;> omega))); (case s2 => (lsm_bools))) | ((with_reducible refine' Pn.tup ?s1 ?s2); (case s1 => (first | omega | (simp only [List.length_append, List.length_cons, List.length_nil, List.length_map, List.length_set, List.length_take, List.length_drop, List.length_dropLast] <;> omega))); (case s2 => (lsm_bools))))
abbrev EndK' (K : WK) : ZEnds := { nx := fun _ S' => K .non S', rt := K }
section
variable {L : Loc'} {S1 : Store} {K : WK} {te : ZE} {tt : ZT} {g : ZTG} {vs : List Nat} {its : List W} {G : Store → Prop} {n r : Nat}
/-- a list whose elements are drawn: Q of the number and the element -/
theorem lcReel (Q : Nat → W → Prop) (hr : ReelOk S1 n r) (hG : ∀ S, Keep [n, r] S1 S → G S) (hsz : its.length ≤ sizeLine)
    (turn : ∀ (i : Nat) (w : W) (S2 : Store) (Kt : WK), its[i]? = some w → ReelOk S2 n r → Keep [n, r] S1 S2 → (∀ y S3, Keep [n, r] S2 S3 → ReelOk S3 n r → Q i y → Kt y S3) → qWipe L vs fun L0 => g w L0 S2 fun L' S3 => te L' S3 Kt)
    (done : ∀ (ys : List W) S2, ys.length = its.length → (∀ i y, ys[i]? = some y → Q i y) → ReelOk S2 n r → Keep [n, r] S1 S2 → S2[S1.length]? = some (.lst ys) → K (.ref S1.length) S2) : LcEnd ⟨its, G⟩ g (fun _ S K => K true S) te vs L S1 K := by
  obtain ⟨l1, l2, l3⟩ := hr.lt
  refine lcI [n, r] (fun S => ReelOk S n r) (fun i acc => acc.length = i ∧ ∀ j y, acc[j]? = some y → Q j y) (by simp; omega) (by simp; omega) (fun S o h hl => h.keep (Keep.set _ _ _) (by simp; omega) (by simp; omega)) (hr.ext (Keep.app _ _ _)) hG ⟨rfl, by simp⟩ ?_ ?_ ?_
  · rintro i acc hi ⟨h1, _⟩
    omega
  · rintro i acc w S2 Kt Kf hw ⟨h1, h2⟩ h3 h4 _ hK _
    have := turn i w S2 Kt hw h3 h4 fun y S3 k3 r3 q => hK y S3 k3 r3 ⟨by simp [h1], fun j z hz => ?_⟩
    · simp only [qIf_t]
      exact this
    · by_cases hj : j < acc.length
      · rw [List.getElem?_append_left hj] at hz
        exact h2 j z hz
      · rw [List.getElem?_append_right (by omega)] at hz
        have e : j - acc.length = 0 := by
          cases hq : j - acc.length with
          | zero => rfl
          | succ k => rw [hq] at hz; simp at hz
        rw [e] at hz
        have e2 : j = i := by omega
        cases hz
        rw [e2]; exact q
  · rintro acc S2 ⟨h1, h2⟩ h3 h4 h5
    exact done acc S2 h1 h2 h3 h4 h5
end
def t__law_order (sp__law_take : ZC) : ZS :=
    (zSeq (zAsg (zCall qList (zCons (zVar 1) zNil)) (zgName 2))
    (zRet (zLc (zRngI (zCons (zCall qLen (zCons (zVar 1) zNil)) zNil)) (zgName 3) (fun _ S K => K true S) (zMl qPop (zVar 2) (zCons (zCallF 2 sp__law_take (zCons (zVar 0) (zCons (zCall qLen (zCons (zVar 2) zNil)) zNil))) zNil)) [3])))
@[irreducible] def sp__law_order : ZC := fun ws S K => ∃ n r row xs, ws = [.ref n, row] ∧ ReelOk S n r ∧ RowAt S n r row xs ∧ xs.length ≤ 16777216 ∧ ∀ ys S' q, ys.Perm xs → Keep [n, r] S S' → ReelOk S' n r → S.length ≤ q → S'[q]? = some (.lst ys) → K (.ref q) S'
theorem c__law_order {n r : Nat} {row : W} {xs : List W} {S : Store} {K : WK} (h1 : ReelOk S n r) (h2 : RowAt S n r row xs) (h4 : xs.length ≤ 16777216) (h : ∀ ys S' q, ys.Perm xs → Keep [n, r] S S' → ReelOk S' n r → S.length ≤ q → S'[q]? = some (.lst ys) → K (.ref q) S') : sp__law_order [.ref n, row] S K := by unfold sp__law_order; exact ⟨n, r, row, xs, rfl, h1, h2, h4, h⟩
theorem perm_erase {α : Type} {ys : List α} {k : Nat} {x : α} (h : ys[k]? = some x) : (x :: ys.eraseIdx k).Perm ys := by
  induction ys generalizing k with
  | nil => cases h
  | cons y ys ih =>
    cases k with
    | zero => cases h; exact .refl _
    | succ k => exact (List.Perm.swap y x _).trans (.cons y (ih h))
theorem u__law_order (ws : List W) (S : Store) (K : WK) (h : sp__law_order ws S K) (hl : ws.length = 2) : t__law_order sp__law_take (EndK' K) (startL 4 ws) S := by
  unfold sp__law_order at h
  obtain ⟨n, r, row, xs, rfl, h1, h2, h4, h⟩ := h
  have hlt := h1.lt
  have body : LcEnd ⟨rangeW 0 xs.length, fun _ => True⟩ (zgName 3) (fun _ S K => K true S) (zMl qPop (zVar 2) (zCons (zCallF 2 sp__law_take (zCons (zVar 0) (zCons (zCall qLen (zCons (zVar 2) zNil)) zNil))) zNil)) [3] [some (.ref n), some row, some (.ref S.length), none] (S ++ [.lst xs]) K := by
    have hS2 : (S ++ [O.lst xs]).length = S.length + 1 := by simp
    refine lcP (fun i acc S' => acc.length = i ∧ ReelOk S' n r ∧ Keep [n, r] S S' ∧ S'[S.length + 1]? = some (.lst acc) ∧ ∃ rest, S'[S.length]? = some (.lst rest) ∧ (acc ++ rest).Perm xs) ?_ ?_ (by rw [rangeW_length]; exact s_sz h4) ?_ ?_
    · exact ⟨rfl, (h1.ext (Keep.app _ _ _)).ext (Keep.app _ _ _), ((Keep.app [n, r] S [O.lst xs]).trans (Keep.app _ _ _)), by rw [List.getElem?_append_right (by omega), hS2]; simp, xs, app_l (by simp), .refl _⟩
    · rintro i acc S' ⟨e1, e2, e3, e4, e5⟩
      exact ⟨trivial, by rw [hS2]; exact e4, by omega⟩
    · rintro i acc w S3 Kt Kf hw ⟨e1, e2, e3, e4, rest, e5, e6⟩ hK _
      obtain ⟨hi, rfl⟩ := rangeW_inv0 hw
      have hl := e6.length_eq
      rw [List.length_append] at hl
      have hlt3 := e2.lt
      keq_rows
      refine c__law_take e2 (DivOk.len (by omega) (by omega)) fun q S4 a b c d => ?_
      obtain ⟨k, rfl⟩ : ∃ k : Nat, q = (k : Int) := ⟨q.toNat, by omega⟩
      have hk : k < rest.length := by omega
      have h6 : rest[k]? = some rest[k] := List.getElem?_eq_getElem hk
      have f5 := c _ _ (by simp; omega) e5
      have f4 := c _ _ (by simp; omega) e4
      keq_rows
      refine q_popi f5 h6 (by omega) (hK _ _ ?_ ⟨by simp [e1], ?_, ?_, ?_, rest.eraseIdx k, ?_, ?_⟩)
      · rw [hS2]; exact set_ne' (by omega) f4
      · exact (d.keep (ms := [S.length]) (Keep.set _ _ _) (by simp; omega) (by simp; omega)).keep (ms := [(S ++ [O.lst xs]).length]) (Keep.set _ _ _) (by simp; omega) (by simp; omega)
      · rw [hS2]
        exact Keep.set_new (by omega) (Keep.set_new (Nat.le_refl _) (e3.trans c))
      · rw [hS2]
        exact List.getElem?_set_self (by rw [List.length_set]; exact lt_of_get f4)
      · rw [hS2]
        exact set_ne' (by omega) (List.getElem?_set_self (lt_of_get f5))
      · rw [List.append_assoc]
        exact (List.Perm.append_left acc (perm_erase h6)).trans e6
    · rintro acc S3 ⟨e1, e2, e3, e4, rest, e5, e6⟩
      rw [rangeW_length] at e1
      have hl := e6.length_eq
      rw [List.length_append] at hl
      have : rest = [] := List.eq_nil_of_length_eq_zero (by omega)
      subst this
      rw [List.append_nil] at e6
      rw [hS2]
      exact h acc S3 _ e6 e3 e2 (by omega) e4
  rcases h2 with rfl | ⟨q, rfl, hq, q1, q2⟩
  · kat_tups
    rw [Int.toNat_natCast]
    exact body
  · kat_tups
    rw [Int.toNat_natCast]
    exact body
end FC

set_option maxHeartbeats 2000000
/-! Z11: what the module's top has written; a law's end. -/
namespace Z
open PySem PySem.Spec PyProof.Rows L2
structure DefAt (K : PySem.W.Frag) (x : Str) (st : Stmt) : Prop where
  ex : ∃ (f : Addr) (oc : Value) (od an : Option Addr) (osl : Array (Option Value)) (kV doc pm cdv ct : Value), PySem.W.nsIn K mainGlobals x = some (some (.ref f)) ∧
    K.lookup f = some ⟨oc, od, .func (PySem.W.fnOf x x (defArgs st) (defBody st) (defScope st) .none kV doc pm an cdv ct), osl⟩ ∧ PySem.W.codeIn K cdv x = true ∧ PySem.W.keepIn K (.ref f) = true
theorem defAt {K : PySem.W.Frag} {x : Str} {st : Stmt} {f : Addr} {oc : Value} {od an : Option Addr} {osl : Array (Option Value)} {kV doc pm cdv ct : Value} (a : PySem.W.nsIn K mainGlobals x = some (some (.ref f)))
    (l : K.lookup f = some ⟨oc, od, .func (PySem.W.fnOf x x (defArgs st) (defBody st) (defScope st) .none kV doc pm an cdv ct), osl⟩) (c : PySem.W.codeIn K cdv x = true) (k : PySem.W.keepIn K (.ref f) = true) : DefAt K x st :=
  ⟨f, oc, od, an, osl, kV, doc, pm, cdv, ct, a, l, c, k⟩
theorem DefAt.fn {K : PySem.W.Frag} {x : Str} {st : Stmt} {h : Heap} {mg : Str → Option Value} (d : DefAt K x st) (X : K.In h) (G : h.Ns mainGlobals mg) : ∃ (f : Addr) (fd : FuncData), Fun K x x st f fd ∧ mg x = some (.ref f) := by
  obtain ⟨f, oc, od, an, osl, kV, doc, pm, cdv, ct, a, l, c, k⟩ := d.ex
  exact ⟨f, _, fun_mk l c k, PySem.W.mg_of X G a⟩
theorem bind1 {K : PySem.W.Frag} {x qual : Str} {st : Stmt} {f : Addr} {fd : FuncData} {p : Str} (F : Fun K x qual st f fd)
    (h : ∀ (kV doc pm : Value) (an : Option Addr) (cdv ct u : Value), bindArgs (PySem.W.fnOf x qual (defArgs st) (defBody st) (defScope st) .none kV doc pm an cdv ct) ⟨[u], []⟩ = pure [(p, u)]) (s : Shared) (v : Value) : BindsTo s fd ⟨[v], []⟩ [(p, v)] := by
  obtain ⟨oc, od, kV, doc, pm, an, cdv, ct, osl, rfl, lk, hcd⟩ := F.ex
  exact .of_eq (h kV doc pm an cdv ct v)
theorem bindsK {K : PySem.W.Frag} {x qual : Str} {st : Stmt} {f : Addr} {fd : FuncData} {ps ks : List Str} {perm : List Nat} (F : Fun K x qual st f fd)
    (h : ∀ (kV doc pm : Value) (an : Option Addr) (cdv ct : Value) (ws : List Value), (pick perm ws).length = ps.length → bindArgs (PySem.W.fnOf x qual (defArgs st) (defBody st) (defScope st) .none kV doc pm an cdv ct) ⟨[], ks.zip ws⟩ = pure (ps.zip (pick perm ws))) (s : Shared) (ws : List Value)
    (hl : (pick perm ws).length = ps.length) : BindsTo s fd ⟨[], ks.zip ws⟩ (ps.zip (pick perm ws)) := by
  obtain ⟨oc, od, kV, doc, pm, an, cdv, ct, osl, rfl, lk, hcd⟩ := F.ex
  exact .of_eq (h kV doc pm an cdv ct ws hl)
def spZ (K : PySem.W.Frag) : Sp := fun vs H Q _ => ∃ (a : Addr) (ns : List Int), vs = [.ref a] ∧ ns.length ≤ 63 ∧ Only H ∧ SqL K H a (ns.map V.int) ∧ ∀ H', Q (.bl true) H'
theorem law_spZ {K : PySem.W.Frag} {P : Program} {w : World} {mg : Str → Option Value} {base : Heap} {k : Nat} {f : Addr} {fd : FuncData} {sp : ZC}
    (F : ZFn P w K mg base [] k f fd ["script"] sp) (h : ∀ ns : List Int, ns.length ≤ 63 → ∀ Kc : WK, (∀ S', Kc (.bl true) S') → sp [.ref 0] [.frz (ns.map W.int)] Kc) : FnOk P w K mg base CX0 k f fd ["script"] (spZ K) := law_z F h
end Z

set_option maxHeartbeats 2000000
/-! Z19: the end where defs hold generator expressions. -/
namespace Z
open PySem PySem.Spec PyProof.Rows L2
theorem tabG_nil {H : Hp} {P : Addr} (h : H P = some (.tbl #[])) : TabG H P := fun d => by
  cases d with
  | zero => exact ⟨_, h, trivial⟩
  | succ d => exact ⟨_, h, trivial, fun pos cv e => by cases e⟩
section
variable {P : Program} {w : World} {K : PySem.W.Frag} {mg : Str → Option Value} {base : Heap} {TB : List Addr}
/-- THE RULE for a def that holds generator expressions -/
theorem fn_zT {x qual : Str} {st : Stmt} {f : Addr} {fd : FuncData} {N ps : List Str} {k : Nat} {sp : ZC} {t : ZS} (F : Fun K x qual st f fd) (S : FnScope N ps (defScope st))
    (hbody : ∀ (cdv : Value) (A : Around) (outer : List Env) (s : Shared) (H : Hp) (E : XK), Room k (A.deeper (envOfC qual (defScope st) s.heap.objs.size f cdv)) → cdv = fd.code → ZPSs TB (cxOf CX0 P w K mg base N qual (defScope st) f cdv A outer s H E).nox (defBody st) t)
    (h : ∀ ws S Kc, sp ws S Kc → ws.length = ps.length → t { nx := fun _ S' => Kc .non S', rt := Kc } (startL N.length ws) S) : ZFn P w K mg base TB (k + 1) f fd ps sp := by
  obtain ⟨oc, od, kV, doc, pm, an, cdv, ct, osl, rfl, lk, hcd⟩ := F.ex
  refine fn_of lk hcd S (fun vs H Q E h => h.1) fun A outer s H vs Q E hr ⟨hl, A0, S0, ws, Kc, sk, r, hsp, hQ⟩ => ?_
  refine ⟨_, ((hbody cdv A outer s H E hr rfl).ps).nox, ?_⟩
  exact lowS_of sk (lok_start N r) (h ws S0 Kc hsp (by rw [r.length]; exact hl)) (fun σ' H' ⟨A1, S1, L1, ea, eh, s1, l1, q⟩ => hQ _ _ ⟨A1, S1, .non, ea, eh, s1, .non, q⟩) (fun v H' q => hQ _ _ q)
    (fun _ _ ⟨_, _, _, _, _, _, _, q⟩ => q.elim) (fun _ _ ⟨_, _, _, _, _, _, _, q⟩ => q.elim)
def spT (K : PySem.W.Frag) (TB : List Addr) : Sp := fun vs H Q _ => ∃ (a : Addr) (ns : List Int), vs = [.ref a] ∧ ns.length ≤ 63 ∧ (∀ P ∈ TB, H P = some (.tbl #[])) ∧ SqL K H a (ns.map V.int) ∧ ∀ H', Q (.bl true) H'
/-- the law's promise -/
theorem law_spT {k : Nat} {f : Addr} {fd : FuncData} {sp : ZC}
    (F : ZFn P w K mg base TB k f fd ["script"] sp) (h : ∀ (ns : List Int) (o : O), ns.length ≤ 63 → IsLst [o] 0 (ns.map W.int) → ∀ Kc : WK, (∀ S', Kc (.bl true) S') → sp [.ref 0] [o] Kc) :
    FnOk P w K mg base CX0 k f fd ["script"] (spT K TB) := by
  refine F.imp fun vs H Q E ⟨a, ns, e, hl, ho, hS, q⟩ => ?_
  subst e
  have rs : ∀ ns : List Int, Reps K [a] H (ns.map W.int) (ns.map V.int) := by
    intro ns
    induction ns with
    | nil => exact .nil
    | cons n ns ih => exact .cons (.int n) ih
  obtain ⟨o, ho1, ho2⟩ : ∃ o : O, IsLst [o] 0 (ns.map W.int) ∧ CellOk K [a] H a o := by
    rcases hS with (hS | hS) | hS
    · exact ⟨.lst (ns.map W.int), rfl, _, hS, rs ns⟩
    · exact ⟨.frz (ns.map W.int), rfl, _, .inl hS, rs ns⟩
    · exact ⟨.frz (ns.map W.int), rfl, _, .inr hS, rs ns⟩
  refine ⟨rfl, [a], [o], [.ref 0], fun w S' => w = .bl true, ?_, .cons (.ref rfl) .nil, h ns o hl ho1 _ fun _ => rfl, fun v H' ⟨A', S', w', _, _, _, r, e⟩ => ?_⟩
  · refine ⟨rfl, fun i j b o u h1 h2 h3 h4 m1 _ => ?_, fun n b o' h1 h2 => ?_, fun P hP => tabG_nil (ho P hP)⟩
    · have l1 := (List.getElem?_eq_some_iff.mp h1).1
      have l2 := (List.getElem?_eq_some_iff.mp h2).1
      simp only [List.length_cons, List.length_nil] at l1 l2
      omega
    · cases n with
      | zero =>
        cases h1
        cases h2
        exact ho2
      | succ n => cases h1
  · subst e
    cases r
    exact q _
/-- a def whose code object and table are known -/
structure DefTab (K : PySem.W.Frag) (x : Str) (st : Stmt) (c P : Addr) : Prop where
  ex : ∃ (f : Addr) (oc : Value) (od an : Option Addr) (osl : Array (Option Value)) (kV doc pm ct : Value), PySem.W.nsIn K mainGlobals x = some (some (.ref f)) ∧
    K.lookup f = some ⟨oc, od, .func (PySem.W.fnOf x x (defArgs st) (defBody st) (defScope st) .none kV doc pm an (.ref c) ct), osl⟩ ∧ PySem.W.codeIn K (.ref c) x = true ∧ PySem.W.keepIn K (.ref f) = true
  tab : PySem.W.tabIn K x = some (c, P)
  new : K.lookup P = none
theorem defTab {x : Str} {st : Stmt} {f c P : Addr} {oc e : Value} {od an dd : Option Addr} {osl sl : Array (Option Value)} {kV doc pm ct : Value} {vs : Array Value} (a : PySem.W.nsIn K mainGlobals x = some (some (.ref f)))
    (l : K.lookup f = some ⟨oc, od, .func (PySem.W.fnOf x x (defArgs st) (defBody st) (defScope st) .none kV doc pm an (.ref c) ct), osl⟩) (c' : PySem.W.codeIn K (.ref c) x = true) (k : PySem.W.keepIn K (.ref f) = true) (t : K.lookup c = some ⟨e, dd, .fields vs, sl⟩) (p : vs[11]? = some (.ref P)) (n : K.lookup P = none) : DefTab K x st c P :=
  ⟨⟨f, oc, od, an, osl, kV, doc, pm, ct, a, l, c', k⟩, by
    unfold PySem.W.tabIn
    rw [a]
    dsimp only
    rw [l]
    dsimp only [PySem.W.fnOf]
    rw [t]
    dsimp only
    rw [p], n⟩
theorem DefTab.fn {x : Str} {st : Stmt} {h : Heap} {c P : Addr} (d : DefTab K x st c P) (X : K.In h) (G : h.Ns mainGlobals mg) : ∃ (f : Addr) (fd : FuncData), Fun K x x st f fd ∧ mg x = some (.ref f) ∧ fd.code = .ref c := by
  obtain ⟨f, oc, od, an, osl, kV, doc, pm, ct, a, l, c', k⟩ := d.ex
  exact ⟨f, _, fun_mk l c' k, PySem.W.mg_of X G a, rfl⟩
/-- ZRoot of the def's context -/
theorem zroot {N : List Str} {qual : Str} {sc : Scope} {f c P' : Addr} {cdv : Value} {A : Around} {outer : List Env} {s : Shared} {H : Hp} {E : XK} (e : cdv = .ref c) (hP : P' ∈ TB) (tb : LamX.TabB base mg c P') :
    ZRoot TB (cxOf CX0 P w K mg base N qual sc f cdv A outer s H E).nox := by
  obtain ⟨bm, ob, b1, b2, b3, b4, b5, b6, b7, b8⟩ := tb.bm
  exact ⟨⟨c, P', e, hP, tb.code⟩, bm, ob, b1, b2, b5, b6, b7, b8⟩
end
/-- the end: cs, the code objects and tables of the defs that hold generator expressions -/
theorem walk_tabs {l : PySem.W.OpenLaw} {n k : Nat} {q : Program} {loose : List Str} {XP : (Str → Option Value) → Heap → Prop} {YP : World → Heap → Prop} {d : DefRec} {K : Params → PySem.W.Frag}
    (hn : l.most = some n) (hn63 : n = 63) (hdf : d.params.defaults = []) (hr : Room k callerA) {xs : List Str} (hxs : xs.all (fun x => ((recsOf q).find? (fun e => e.name == x)).isSome) = true) (hY : ∀ (w : World) (h : Heap), YP w h → (K w.params).In h)
    (F : ∀ (w : World) (mg : Str → Option Value) (fa : Addr) (h : Heap), YP w h → (K w.params).In h → h.Ns mainGlobals mg → mg d.name = some (.ref fa) →
      ∃ cs : List (Str × Addr × Addr), cs.map (·.1) = xs ∧ (∀ p ∈ cs, PySem.W.tabIn (K w.params) p.1 = some p.2 ∧ (K w.params).lookup p.2.2 = none) ∧
        ∃ fd : FuncData, (∀ (s : Shared) (u : Value), BindsTo s fd ⟨[u], []⟩ [("script", u)]) ∧ ∀ base : Heap, (K w.params).In base → base.Ns mainGlobals mg → (∀ p ∈ cs, LamX.TabB base mg p.2.1 p.2.2) → FnOk l.prog w (K w.params) mg base CX0 k fa fd ["script"] (spT (K w.params) (cs.map (·.2.2)))) :
    PySem.W.WalkO q loose XP YP l.row.toRowW d [] (fun f vs => PySem.call f vs) := by
  refine Att.attach_callB hn hdf fun w s₀ s₁ mg mb fa o pm cd doc a vs ns G Y ho hd hcd hmg hobj hints hlen hbits hg => ?_
  have KX := hY w _ Y
  obtain ⟨cs, hn1, hcs, fd, hb, hF⟩ := F w mg fa _ Y KX G.T.g hmg
  have tabs : ∀ p ∈ cs, PySem.W.CodeHd s₁.heap p.2.1 p.2.2 ∧ s₁.heap.get? p.2.2 = some (PySem.W.tabObj #[]) := fun p hp => by
    obtain ⟨h2, _⟩ := hcs p hp
    have h1 := List.all_eq_true.mp hxs p.1 (by rw [← hn1]; exact List.mem_map.mpr ⟨p, hp, rfl⟩)
    obtain ⟨dL, h3⟩ := Option.isSome_iff_exists.mp h1
    exact PySem.W.tab_of G.T KX h3 h2
  have back : ∀ p ∈ cs.map (·.2), ∃ r ∈ cs, r.2 = p := fun p hp => List.mem_map.mp hp
  refine LamX.law_callTs (cs := cs.map (·.2)) KX G.T.g G.T.b G.T.builtins G.T.nolimit hg (fun p hp => ?_) (fun p hp => ?_) (fun p hp => ?_) G.T.bmain hobj hints (Nat.le_trans hlen (by rw [hn63]; decide)) hr (fun base h1 h2 h3 => hF base h1 h2 fun p hp => h3 p.2 (List.mem_map.mpr ⟨p, hp, rfl⟩)) hb (fun H hH hS => ?_) fun H e s' z => z
  · obtain ⟨r, hr, rfl⟩ := back p hp
    exact (tabs r hr).2
  · obtain ⟨r, hr, rfl⟩ := back p hp
    exact (hcs r hr).2
  · obtain ⟨r, hr, rfl⟩ := back p hp
    exact (tabs r hr).1
  · refine ⟨a, ns, rfl, by omega, fun P' hP => ?_, hS, fun _ => rfl⟩
    obtain ⟨r, hr, rfl⟩ := List.mem_map.mp hP
    exact hH r.2 (List.mem_map.mpr ⟨r, hr, rfl⟩)
end Z

set_option maxHeartbeats 2000000
/-! Z20: rows of ints and pairs; rules for comprehensions of two clauses; lists by what holds of each place. -/
namespace Z
open PySem PySem.Spec PyProof.Rows L2
abbrev wW (w : List Int) : W := .tup (w.map W.int)
abbrev wsW (ws : List (List Int)) : W := .tup (ws.map wW)
abbrev wdW (worlds : List (List (List Int))) : W := .tup (worlds.map wsW)
abbrev nnW (p : Nat × Nat) : W := .tup [.int (p.1 : Int), .int (p.2 : Int)]
theorem enum_range (xs : List Int) : enumW (xs.map W.int) = (List.range xs.length).map fun i => W.tup [.int (i : Nat), .int (xs.getD i 0)] := by
  apply List.ext_getElem?
  intro i
  unfold enumW
  rw [List.getElem?_mapIdx, List.getElem?_map, List.getElem?_map]
  by_cases h : i < xs.length
  · rw [List.getElem?_eq_getElem h, List.getElem?_range h]
    simp [List.getD_eq_getElem?_getD, List.getElem?_eq_getElem h]
  · rw [List.getElem?_eq_none (by omega), List.getElem?_eq_none (by rw [List.length_range]; omega)]
    rfl
theorem sum_ones {α : Type} (p : α → Bool) (l : List α) : (l.filterMap fun i => if p i then some (1 : Int) else none).sum = ((l.filter p).length : Int) := by
  induction l with
  | nil => rfl
  | cons a l ih =>
    by_cases h : p a = true
    · rw [List.filterMap_cons_some (by rw [if_pos h]), List.filter_cons_of_pos h, List.sum_cons, ih, List.length_cons]; omega
    · rw [List.filterMap_cons_none (by rw [if_neg h]), List.filter_cons_of_neg h, ih]
theorem int_at {xs : List Int} {i : Nat} {w : W} (h : (xs.map W.int)[i]? = some w) : i < xs.length ∧ w = .int (xs.getD i 0) := by
  rw [List.getElem?_map, Option.map_eq_some_iff] at h
  obtain ⟨x, hx, rfl⟩ := h
  obtain ⟨hi, e⟩ := List.getElem?_eq_some_iff.mp hx
  exact ⟨hi, by rw [List.getD_eq_getElem?_getD, hx]; rfl⟩
theorem atI_nat {xs : List Int} {i : Nat} (h : i < xs.length) : atI (xs.map W.int) (i : Int) = some (.int (xs.getD i 0)) := by
  rw [atI_cast, List.getElem?_map, List.getElem?_eq_getElem h, List.getD_eq_getElem?_getD, List.getElem?_eq_getElem h]
  rfl
/-- a number that p passes -/
def selI (p : Nat → Bool) : W → Option W
  | .int i => if p i.toNat then some (.int i) else none
  | _ => none
@[simp] theorem selI_int (p : Nat → Bool) (i : Nat) : selI p (.int (i : Int)) = if p i then some (.int (i : Int)) else none := rfl
theorem filter_num (p : Nat → Bool) (n : Nat) : ((rangeW 0 n).filterMap (selI p)) = ((List.range n).filter p).map fun i => W.int (i : Nat) := by
  unfold rangeW
  rw [List.filterMap_map]
  induction (List.range n) with
  | nil => rfl
  | cons a l ih =>
    by_cases h : p a = true
    · rw [List.filter_cons_of_pos h, List.map_cons, ← ih, List.filterMap_cons_some (b := W.int (a : Nat)) (by simp [h])]
    · rw [List.filter_cons_of_neg h, ← ih, List.filterMap_cons_none (by simp [h])]
theorem map_mapIdx {α β γ : Type} (f : β → γ) (g : Nat → α → β) (l : List α) : (l.mapIdx g).map f = l.mapIdx fun i a => f (g i a) := by
  apply List.ext_getElem?
  intro i
  simp [List.getElem?_mapIdx, Function.comp_def]
theorem mapIdx_map' {α β γ : Type} (f : α → β) (g : Nat → β → γ) (l : List α) : (l.map f).mapIdx g = l.mapIdx fun i a => g i (f a) := by
  apply List.ext_getElem?
  intro i
  simp [List.getElem?_mapIdx, Function.comp_def]
theorem row_at {t : List (List Int)} {i : Nat} {w : W} (h : (t.map wW)[i]? = some w) : ∃ row, t[i]? = some row ∧ w = wW row := by
  rw [List.getElem?_map, Option.map_eq_some_iff] at h
  obtain ⟨x, hx, rfl⟩ := h
  exact ⟨x, hx, rfl⟩
def unW : W → List Int
  | .tup xs => xs.map fun | .int i => i | _ => 0
  | _ => []
@[simp] theorem unW_wW (w : List Int) : unW (wW w) = w := by
  show (w.map W.int).map _ = w
  rw [List.map_map]
  exact List.map_id _
theorem mem_nn {ps : List (Nat × Nat)} {i j : Nat} : W.tup [.int (i : Int), .int (j : Int)] ∈ ps.map nnW ↔ (i, j) ∈ ps := by
  constructor
  · intro h
    obtain ⟨⟨a, b⟩, h1, h2⟩ := List.mem_map.mp h
    have h3 := List.cons.inj (W.tup.inj h2)
    have h4 := W.int.inj h3.1
    have h5 := W.int.inj (List.cons.inj h3.2).1
    dsimp only at h4 h5
    have e1 : a = i := by omega
    have e2 : b = j := by omega
    rw [← e1, ← e2]; exact h1
  · intro h
    exact List.mem_map.mpr ⟨_, h, rfl⟩
theorem pns_nn (ps : List (Nat × Nat)) : Pns 8 (ps.map nnW) := Pns.of fun x hx => by
  obtain ⟨p, _, rfl⟩ := List.mem_map.mp hx
  exact Pn.tup (by simp) (.cons (.int _ _) (.cons (.int _ _) (.nil _)))

theorem Keep.out {ms : List Nat} {S1 S2 S3 : Store} {n : Nat} (k : Keep ms S1 S2) (hn : S1.length ≤ n) (k3 : Keep [n] S2 S3) : Keep ms S1 S3 := fun i o hi e => k3 i o (by
  have := lt_of_get e
  simp; omega) (k i o hi e)
/-- places told one by one -/
theorem list_of {α : Type} (f : α → W) (R : Nat → α → Prop) : ∀ {ys : List W}, (∀ i y, ys[i]? = some y → ∃ a, y = f a ∧ R i a) → ∃ as : List α, ys = as.map f ∧ as.length = ys.length ∧ ∀ i a, as[i]? = some a → R i a
  | [], _ => ⟨[], rfl, rfl, fun i a h => by simp at h⟩
  | y :: ys, h => by
    obtain ⟨a, e, ra⟩ := h 0 y rfl
    obtain ⟨as, e2, e3, r2⟩ := list_of f (fun i => R (i + 1)) (ys := ys) fun i y hy => h (i + 1) y hy
    refine ⟨a :: as, by rw [e, e2]; rfl, by simp [e3], fun i b hb => ?_⟩
    cases i with
    | zero => cases hb; exact ra
    | succ i => exact r2 i b hb
section
variable {L : Loc'} {S1 : Store} {K : WK} {te : ZE} {tt tt1 : ZT} {ti1 : ZTI} {g g1 : ZTG} {vs vs1 : List Nat} {its : List W} {G : Store → Prop}
/-- the inner clause: f of the item, none where the test refuses -/
theorem liF {n : Nat} {acc : List W} {Kd : List W → Store → Prop} (f : W → Option W) (hn : S1[n]? = some (.lst acc)) (hG : ∀ S, Keep [n] S1 S → G S) (hsz : acc.length + its.length ≤ sizeLine)
    (turn : ∀ (i : Nat) (w : W) (S2 : Store) (Kt : WK) (Kf : Store → Prop), its[i]? = some w → Keep [n] S1 S2 → (∀ y S5, f w = some y → Ext S2 S5 → Kt y S5) → (∀ S4, f w = none → Ext S2 S4 → Kf S4) → qWipe L vs fun L0 => g w L0 S2 fun L' S3 => tt L' S3 fun b S4 => qIf b (te L' S4 Kt) (Kf S4))
    (done : ∀ S2, Keep [n] S1 S2 → S2[n]? = some (.lst (acc ++ its.filterMap f)) → Kd (acc ++ its.filterMap f) S2) : LiEnd n ⟨its, G⟩ g tt te vs L acc S1 Kd := by
  unfold LiEnd
  have hnl := lt_of_get hn
  refine ⟨fun i ac S2 => ac = acc ++ (its.take i).filterMap f ∧ Keep [n] S1 S2 ∧ S2[n]? = some (.lst ac), ⟨by simp, Keep.refl _ _, hn⟩, fun i ac w S2 hw ⟨e, k, h1⟩ => ⟨hG _ k, h1, qWipe_eq.mp (turn i w S2 _ _ hw k (fun y S5 ey k5 => ?_) fun S4 ey k4 => ⟨?_, k.trans (Ext.keep k4), k4.get h1⟩)⟩, fun ac S2 ⟨e, k, h1⟩ => ⟨hG _ k, ?_⟩⟩
  · have hil : i < its.length := (List.getElem?_eq_some_iff.mp hw).1
    have hlen : ac.length ≤ acc.length + i := by
      rw [e, List.length_append]
      have := List.length_filterMap_le f (its.take i)
      rw [List.length_take] at this
      omega
    unfold qPush
    refine ⟨k5.get h1, by omega, ?_, (k.trans (Ext.keep k5)).trans (Keep.set _ _ _), List.getElem?_set_self (lt_of_get (k5.get h1))⟩
    rw [e, List.take_add_one, hw, Option.toList_some, List.filterMap_append, List.filterMap_cons_some ey, List.filterMap_nil, List.append_assoc]
  · rw [e, List.take_add_one, hw, Option.toList_some, List.filterMap_append, List.filterMap_cons_none ey, List.filterMap_nil, List.append_nil]
  · dsimp only at e h1
    rw [List.take_length] at e
    rw [e] at h1 ⊢
    exact done S2 k h1
/-- the two clauses: f, what an item of the outer clause gives -/
theorem lc2F (f : W → List W) (hG : ∀ S, Ext S1 S → G S) (hsz : (its.flatMap f).length ≤ sizeLine)
    (turn : ∀ (i : Nat) (acc : List W) (w : W) (S2 : Store) (Kd : List W → Store → Prop), its[i]? = some w → Ext S1 S2 → S2[S1.length]? = some (.lst acc) → acc.length + (f w).length ≤ sizeLine → (∀ S3, Keep [S1.length] S2 S3 → S3[S1.length]? = some (.lst (acc ++ f w)) → Kd (acc ++ f w) S3) →
      qWipe L vs fun L0 => g w L0 S2 fun L' S3 => tt L' S3 fun b S4 => qIf b (ti1 L' S4 fun z1 S5 => LiEnd S1.length z1 g1 tt1 te vs1 L' acc S5 Kd) (Kd acc S4))
    (done : ∀ S2, Ext S1 S2 → S2[S1.length]? = some (.lst (its.flatMap f)) → K (.ref S1.length) S2) : Lc2End ⟨its, G⟩ g tt ti1 g1 tt1 te vs vs1 L S1 K := by
  unfold Lc2End
  refine ⟨fun i ac S2 => ac = (its.take i).flatMap f ∧ Ext S1 S2 ∧ S2[S1.length]? = some (.lst ac), ⟨by simp, Keep.app _ _ _, by simp⟩, fun i ac w S2 hw ⟨e, k, h1⟩ => ⟨hG _ k, qWipe_eq.mp (turn i ac w S2 _ hw k h1 ?_ fun S3 k3 h3 => ⟨?_, Keep.out k (Nat.le_refl _) k3, h3⟩)⟩, fun ac S2 ⟨e, k, h1⟩ => ⟨hG _ k, ?_⟩⟩
  · have e2 : (its.take (i + 1)).flatMap f = ac ++ f w := by
      rw [e, List.take_add_one, hw, Option.toList_some, List.flatMap_append]
      simp
    have e3 : its.flatMap f = (its.take (i + 1)).flatMap f ++ (its.drop (i + 1)).flatMap f := by rw [← List.flatMap_append, List.take_append_drop]
    rw [e3, e2, List.length_append, List.length_append] at hsz
    omega
  · rw [e, List.take_add_one, hw, Option.toList_some, List.flatMap_append]
    simp
  · dsimp only at e h1
    rw [List.take_length] at e
    rw [e] at h1
    exact done S2 k h1
end
end Z

set_option maxHeartbeats 2000000
/-! Z21: comprehensions and generator expressions over a row told as a mapped list. -/
namespace Z
open PySem PySem.Spec PyProof.Rows L2
theorem at_map {α : Type} {φ : α → W} {xs : List α} {i : Nat} {w : W} (h : (xs.map φ)[i]? = some w) : ∃ a, xs[i]? = some a ∧ w = φ a := by
  rw [List.getElem?_map, Option.map_eq_some_iff] at h
  obtain ⟨x, hx, rfl⟩ := h
  exact ⟨x, hx, rfl⟩
section
variable {L : Loc'} {S1 : Store} {K : WK} {te : ZE} {tt : ZT} {g : ZTG} {vs : List Nat} {its : List W} {G : Store → Prop} {α : Type}
theorem take_snoc {α : Type} {xs : List α} {i : Nat} {a : α} (h : xs[i]? = some a) : xs.take (i + 1) = xs.take i ++ [a] := by
  rw [List.take_add_one, h, Option.toList_some]
theorem lcX (φ : α → W) (xs : List α) (he : its = xs.map φ) (f : α → Option W) (hG : ∀ S, Ext S1 S → G S) (hsz : xs.length ≤ sizeLine)
    (turn : ∀ (i : Nat) (a : α) (S2 : Store) (Kt : WK) (Kf : Store → Prop), xs[i]? = some a → Ext S1 S2 → (∀ y S5, f a = some y → Ext S2 S5 → Kt y S5) → (∀ S4, f a = none → Ext S2 S4 → Kf S4) → qWipe L vs fun L0 => g (φ a) L0 S2 fun L' S3 => tt L' S3 fun b S4 => qIf b (te L' S4 Kt) (Kf S4))
    (done : ∀ S2, Ext S1 S2 → S2[S1.length]? = some (.lst (xs.filterMap f)) → K (.ref S1.length) S2) : LcEnd ⟨its, G⟩ g tt te vs L S1 K := by
  subst he
  refine lcI [] (fun _ => True) (fun i acc => acc = (xs.take i).filterMap f) (by simp) (by simp) (fun _ _ _ _ => trivial) trivial hG rfl (fun i acc hi e => ?_) (fun i acc w S2 Kt Kf hw e _ k _ hK hK' => ?_) fun acc S2 e _ k hS => done S2 k ?_
  · subst e
    have := List.length_filterMap_le f (xs.take i)
    rw [List.length_take] at this
    rw [List.length_map] at hi
    omega
  · obtain ⟨a, ha, rfl⟩ := at_map hw
    refine turn i a S2 Kt Kf ha k (fun y S5 ey k5 => hK _ _ k5 trivial ?_) fun S4 ey k4 => hK' _ k4 trivial ?_
    · rw [e, take_snoc ha, List.filterMap_append, List.filterMap_cons_some ey, List.filterMap_nil]
    · rw [e, take_snoc ha, List.filterMap_append, List.filterMap_cons_none ey, List.filterMap_nil, List.append_nil]
  · rw [List.length_map, List.take_length] at e
    rw [← e]; exact hS
/-- no test -/
theorem lcXM (φ : α → W) (xs : List α) (he : its = xs.map φ) (f : α → W) (hG : ∀ S, Ext S1 S → G S) (hsz : xs.length ≤ sizeLine)
    (turn : ∀ (i : Nat) (a : α) (S2 : Store) (Kt : WK), xs[i]? = some a → Ext S1 S2 → (∀ S5, Ext S2 S5 → Kt (f a) S5) → qWipe L vs fun L0 => g (φ a) L0 S2 fun L' S3 => te L' S3 Kt)
    (done : ∀ S2, Ext S1 S2 → S2[S1.length]? = some (.lst (xs.map f)) → K (.ref S1.length) S2) : LcEnd ⟨its, G⟩ g (fun _ S K => K true S) te vs L S1 K :=
  lcX φ xs he (fun a => some (f a)) hG hsz (fun i a S2 Kt Kf ha k hK _ => by
    have := turn i a S2 Kt ha k fun S5 k5 => hK _ _ rfl k5
    simp only [qIf_t]
    exact this) fun S2 k e => done S2 k (by rw [e]; congr 2; exact (List.filterMap_eq_map (f := f) ▸ rfl))
theorem glTupX (φ : α → W) (xs : List α) (he : its = xs.map φ) (f : α → Option W) (hG : ∀ S, Ext S1 S → G S) (hsz : xs.length ≤ sizeLine)
    (turn : ∀ (i : Nat) (a : α) (S2 : Store) (Kt : WK) (Kf : Store → Prop), xs[i]? = some a → Ext S1 S2 → (∀ y S5, f a = some y → Ext S2 S5 → Kt y S5) → (∀ S4, f a = none → Ext S2 S4 → Kf S4) → qWipe L vs fun L0 => g (φ a) L0 S2 fun L' S3 => tt L' S3 fun b S4 => qIf b (te L' S4 Kt) (Kf S4))
    (done : ∀ S2, Ext S1 S2 → K (.tup (xs.filterMap f)) S2) : GlEnd ⟨its, G⟩ g tt te vs L S1 (fun _ _ _ nx => nx) fun acc S => K (.tup acc) S := by
  subst he
  unfold GlEnd
  refine ⟨by rw [List.length_map]; exact hsz, fun i acc S2 => acc = (xs.take i).filterMap f ∧ Ext S1 S2, ⟨rfl, Keep.refl _ _⟩, fun i acc w S2 hw ⟨e, k⟩ => ⟨hG _ k, ?_⟩, fun acc S2 ⟨e, k⟩ => ⟨hG _ k, ?_⟩⟩
  · obtain ⟨a, ha, rfl⟩ := at_map hw
    refine qWipe_eq.mp (turn i a S2 _ _ ha k (fun y S5 ey k5 => ⟨?_, k.trans k5⟩) fun S4 ey k4 => ⟨?_, k.trans k4⟩)
    · rw [e, take_snoc ha, List.filterMap_append, List.filterMap_cons_some ey, List.filterMap_nil]
    · rw [e, take_snoc ha, List.filterMap_append, List.filterMap_cons_none ey, List.filterMap_nil, List.append_nil]
  · dsimp only at e
    rw [List.length_map, List.take_length] at e
    subst e
    exact done S2 k
theorem glTupXM (φ : α → W) (xs : List α) (he : its = xs.map φ) (f : α → W) (hG : ∀ S, Ext S1 S → G S) (hsz : xs.length ≤ sizeLine)
    (turn : ∀ (i : Nat) (a : α) (S2 : Store) (Kt : WK), xs[i]? = some a → Ext S1 S2 → (∀ S5, Ext S2 S5 → Kt (f a) S5) → qWipe L vs fun L0 => g (φ a) L0 S2 fun L' S3 => te L' S3 Kt)
    (done : ∀ S2, Ext S1 S2 → K (.tup (xs.map f)) S2) : GlEnd ⟨its, G⟩ g (fun _ S K => K true S) te vs L S1 (fun _ _ _ nx => nx) fun acc S => K (.tup acc) S :=
  glTupX φ xs he (fun a => some (f a)) hG hsz (fun i a S2 Kt Kf ha k hK _ => by
    have := turn i a S2 Kt ha k fun S5 k5 => hK _ _ rfl k5
    simp only [qIf_t]
    exact this) fun S2 k => by
    rw [show xs.filterMap (fun a => some (f a)) = xs.map f from List.filterMap_eq_map (f := f) ▸ rfl]
    exact done S2 k
/-- any: p of the item, where no test stands ahead -/
theorem glAnyX (φ : α → W) (xs : List α) (he : its = xs.map φ) (p : α → Bool) (hG : ∀ S, Ext S1 S → G S) (hsz : xs.length ≤ sizeLine)
    (turn : ∀ (i : Nat) (a : α) (S2 : Store) (Kt : WK), xs[i]? = some a → Ext S1 S2 → (∀ y S5, y.truth S5 = some (p a) → Ext S2 S5 → Kt y S5) → qWipe L vs fun L0 => g (φ a) L0 S2 fun L' S3 => te L' S3 Kt)
    (done : ∀ S2, Ext S1 S2 → K (.bl (xs.any p)) S2) : GlEnd ⟨its, G⟩ g (fun _ S K => K true S) te vs L S1 (yAny true K) fun _ S => K (.bl (!true)) S := by
  subst he
  unfold GlEnd
  refine ⟨by rw [List.length_map]; exact hsz, fun i acc S2 => (xs.take i).any p = false ∧ Ext S1 S2, ⟨rfl, Keep.refl _ _⟩, fun i acc w S2 hw ⟨e, k⟩ => ⟨hG _ k, ?_⟩, fun acc S2 ⟨e, k⟩ => ⟨hG _ k, ?_⟩⟩
  · obtain ⟨a, ha, rfl⟩ := at_map hw
    simp only [qIf_t]
    refine qWipe_eq.mp (turn i a S2 _ ha k fun y S5 ht k5 => ?_)
    unfold yAny
    rw [ht]
    show qIf (p a == true) _ _
    cases hb : p a with
    | true =>
      have := done S5 (k.trans k5)
      rw [List.any_eq_true.mpr ⟨a, List.mem_of_getElem? ha, hb⟩] at this
      exact qIf_t.mpr this
    | false =>
      refine qIf_f.mpr ⟨?_, k.trans k5⟩
      rw [take_snoc ha, List.any_append, e, List.any_cons, hb]
      rfl
  · dsimp only at e
    rw [List.length_map, List.take_length] at e
    have := done S2 k
    rw [e] at this
    exact this
/-- all -/
theorem glAllX (φ : α → W) (xs : List α) (he : its = xs.map φ) (p : α → Bool) (hG : ∀ S, Ext S1 S → G S) (hsz : xs.length ≤ sizeLine)
    (turn : ∀ (i : Nat) (a : α) (S2 : Store) (Kt : WK), xs[i]? = some a → Ext S1 S2 → (∀ y S5, y.truth S5 = some (p a) → Ext S2 S5 → Kt y S5) → qWipe L vs fun L0 => g (φ a) L0 S2 fun L' S3 => te L' S3 Kt)
    (done : ∀ S2, Ext S1 S2 → K (.bl (xs.all p)) S2) : GlEnd ⟨its, G⟩ g (fun _ S K => K true S) te vs L S1 (yAny false K) fun _ S => K (.bl (!false)) S := by
  subst he
  unfold GlEnd
  refine ⟨by rw [List.length_map]; exact hsz, fun i acc S2 => (xs.take i).all p = true ∧ Ext S1 S2, ⟨rfl, Keep.refl _ _⟩, fun i acc w S2 hw ⟨e, k⟩ => ⟨hG _ k, ?_⟩, fun acc S2 ⟨e, k⟩ => ⟨hG _ k, ?_⟩⟩
  · obtain ⟨a, ha, rfl⟩ := at_map hw
    simp only [qIf_t]
    refine qWipe_eq.mp (turn i a S2 _ ha k fun y S5 ht k5 => ?_)
    unfold yAny
    rw [ht]
    show qIf (p a == false) _ _
    cases hb : p a with
    | false =>
      have := done S5 (k.trans k5)
      rw [List.all_eq_false.mpr ⟨a, List.mem_of_getElem? ha, by rw [hb]; exact Bool.false_ne_true⟩] at this
      exact qIf_t.mpr this
    | true =>
      refine qIf_f.mpr ⟨?_, k.trans k5⟩
      rw [take_snoc ha, List.all_append, e, List.all_cons, hb]
      rfl
  · dsimp only at e
    rw [List.length_map, List.take_length] at e
    have := done S2 k
    rw [e] at this
    exact this
/-- sum of small ints -/
theorem glSumX (φ : α → W) (xs : List α) (he : its = xs.map φ) (f : α → Option Int) (B : Int) (hB : 0 ≤ B ∧ B ≤ 274877906944) (hG : ∀ S, Ext S1 S → G S) (hsz : xs.length ≤ 16777216) (hf : ∀ a ∈ xs, ∀ j, f a = some j → -B ≤ j ∧ j ≤ B)
    (turn : ∀ (i : Nat) (a : α) (S2 : Store) (Kt : WK) (Kf : Store → Prop), xs[i]? = some a → Ext S1 S2 → (∀ j S5, f a = some j → Ext S2 S5 → Kt (.int j) S5) → (∀ S4, f a = none → Ext S2 S4 → Kf S4) → qWipe L vs fun L0 => g (φ a) L0 S2 fun L' S3 => tt L' S3 fun b S4 => qIf b (te L' S4 Kt) (Kf S4))
    (done : ∀ S2, Ext S1 S2 → K (.int (xs.filterMap f).sum) S2) : GlEnd ⟨its, G⟩ g tt te vs L S1 ySum fun acc S => (∀ x ∈ acc, x.isInt = true) ∧ K (.int (sumW acc)) S := by
  subst he
  have bnd : ∀ l : List α, (∀ w ∈ l, w ∈ xs) → -B * (l.length : Int) ≤ (l.filterMap f).sum ∧ (l.filterMap f).sum ≤ B * (l.length : Int) := by
    intro l
    induction l with
    | nil => intro _; simp
    | cons w l ih =>
      intro hl
      obtain ⟨h1, h2⟩ := ih fun x hx => hl x (List.mem_cons_of_mem _ hx)
      rw [List.length_cons, Int.natCast_add, Int.natCast_one, Int.mul_add, Int.mul_add, Int.mul_one, Int.mul_one]
      cases e : f w with
      | none => rw [List.filterMap_cons_none e]; omega
      | some j =>
        have := hf w (hl w List.mem_cons_self) j e
        rw [List.filterMap_cons_some e, List.sum_cons]; omega
  have long : ∀ l : List α, (∀ w ∈ l, w ∈ xs) → l.length ≤ xs.length → InLong (l.filterMap f).sum := fun l h1 h2 => by
    obtain ⟨a, b⟩ := bnd l h1
    have h3 : (l.length : Int) ≤ 16777216 := by omega
    have h4 : B * (l.length : Int) ≤ 274877906944 * 16777216 := Int.le_trans (Int.mul_le_mul_of_nonneg_left h3 hB.1) (Int.mul_le_mul_of_nonneg_right hB.2 (by decide))
    have h5 : -B * (l.length : Int) = -(B * (l.length : Int)) := Int.neg_mul _ _
    refine ⟨?_, ?_⟩ <;> omega
  have sumE : ∀ l : List α, sumW ((l.filterMap f).map W.int) = (l.filterMap f).sum := fun l => by
    unfold sumW
    rw [List.map_map]
    show ((l.filterMap f).map id).sum = _
    rw [List.map_id]
  unfold GlEnd
  refine ⟨by rw [sizeLine_eq, List.length_map]; exact hsz, fun i acc S2 => acc = ((xs.take i).filterMap f).map W.int ∧ Ext S1 S2, ⟨rfl, Keep.refl _ _⟩, fun i acc w S2 hw ⟨e, k⟩ => ⟨hG _ k, ?_⟩, fun acc S2 ⟨e, k⟩ => ⟨hG _ k, ?_⟩⟩
  · obtain ⟨a, ha, rfl⟩ := at_map hw
    refine qWipe_eq.mp (turn i a S2 _ _ ha k (fun j S5 ey k5 => ?_) fun S4 ey k4 => ⟨?_, k.trans k4⟩)
    · have hil := (List.getElem?_eq_some_iff.mp ha).1
      have e2 : acc ++ [W.int j] = ((xs.take (i + 1)).filterMap f).map W.int := by
        subst e
        rw [take_snoc ha, List.filterMap_append, List.filterMap_cons_some ey, List.filterMap_nil, List.map_append]
        rfl
      refine ⟨rfl, ?_, ?_, ?_, e2, k.trans k5⟩
      · obtain ⟨a', b'⟩ := hf a (List.mem_of_getElem? ha) j ey
        show InLong j
        refine ⟨?_, ?_⟩ <;> omega
      · rw [e2, sumE]
        exact long _ (fun w hw => List.mem_of_mem_take hw) (by rw [List.length_take]; omega)
      · subst e
        intro x hx
        obtain ⟨y, _, rfl⟩ := List.mem_map.mp hx
        rfl
    · rw [e, take_snoc ha, List.filterMap_append, List.filterMap_cons_none ey, List.filterMap_nil, List.append_nil]
  · dsimp only at e
    rw [List.length_map, List.take_length] at e
    subst e
    refine ⟨fun x hx => ?_, ?_⟩
    · obtain ⟨y, _, rfl⟩ := List.mem_map.mp hx
      rfl
    · rw [sumE]
      exact done S2 k
end
end Z

set_option maxHeartbeats 4000000
namespace FS
open PySem PySem.Spec PyProof.Rows L2 Z 
local macro_rules | `(tactic| tb_start) => `(tactic| first | assumption | exact True.intro | exact ⟨_, _, rfl, by ke_read⟩ | ((with_reducible refine' MulOk.r ?s1 ?s2); (case s1 => (decide)); (case s2 => (decide))) | ((with_reducible refine' DivOk.any ?s1); (case s1 => (assumption))) | ((with_reducible refine' DivOk.small ?s1 ?s2); (case s1 => (decide)); (case s2 => (decide))) | ((with_reducible refine' MulOk.r ?s1 ?s2); (case s1 => (omega)); (case s2 => (omega))) | ((with_reducible refine' MulOk.l ?s1 ?s2); (case s1 => (omega)); (case s2 => (omega))) | ((with_reducible refine' DivOk.small ?s1 ?s2); (case s1 => (omega)); (case s2 => (omega))) | ((with_reducible refine' PowOk.lit ?s1 ?s2 ?s3); (case s1 => (decide)); (case s2 => (decide)); (case s3 => (decide))) | omega | ((with_reducible refine' s_sz ?s1); (case s1 => (first | omega | (simp only [List.length_append, List.length_cons, List.length_nil, List.length_map, List.length_set, List.length_take, List.length_drop, List.length_dropLast] <;> omega)))) | ((with_reducible refine' s_szl ?s1); (case s1 => (first | omega | (simp only [List.length_append, List.length_cons, List.length_nil, List.length_map, List.length_set, List.length_take, List.length_drop, List.length_dropLast] <;> omega)))) | ke_read | ked_read | decide)
local macro_rules | `(tactic| ke_reads) => `(tactic| first | assumption | exact Ne.symm (by assumption) | omega | (simp only [List.length_append, List.length_cons, List.length_nil, List.length_set] at * <;> omega))
local macro_rules | `(tactic| ked_reads) => `(tactic| first | assumption | ((with_reducible refine' lt_of_get ?s1); (case s1 => (ked_read))))
local macro_rules | `(tactic| ked_read) => `(tactic| first | assumption | ((with_reducible refine' List.getElem?_set_self ?s1); (case s1 => (ked_reads))) | ((with_reducible refine' set_ne' ?s1 ?s2); (case s1 => (ke_reads)); (case s2 => (ked_read))) | exact (app_get0 _ _).trans rfl | exact (app_get _ _ _).trans rfl | ((with_reducible refine' app_l ?s1); (case s1 => (ked_read))))
local macro_rules | `(tactic| ke_read) => `(tactic| first | assumption | (apply getL_of; assumption) | ((with_reducible refine' getL_set_self ?s1); (case s1 => (ked_reads))) | exact getL_app00 _ _ _ | exact getL_app1 _ _ _ _ | ((with_reducible refine' getL_set_ne' ?s1 ?s2); (case s1 => (ke_reads)); (case s2 => (ke_read))) | ((with_reducible refine' getL_app_l ?s1); (case s1 => (ke_read))) | exact (getL_app _ _ _).trans rfl)
local macro_rules | `(tactic| kqd_all) => `(tactic| first | assumption | (rw [atI_m1]; first | with_unfolding_all rfl | assumption) | (rw [atI_lit]; first | with_unfolding_all rfl | assumption) | (rw [atI_cast]; assumption) | exact atI_ints (by omega) (by simp only [List.length_map] at *; omega))
local macro_rules | `(tactic| kct_strs) => `(tactic| first | assumption | (rw [ixN_lit, if_pos (by simp)]; done))
local macro_rules | `(tactic| kp_flats) => `(tactic| first | with_reducible refine q_let0 ?_ | with_reducible refine q_let1 ?_ | with_reducible refine q_let2 ?_ | with_reducible refine q_let3 ?_ | with_reducible refine q_let4 ?_ | with_reducible refine q_let5 ?_ | with_reducible refine q_let6 ?_ | with_reducible refine q_let7 ?_ | with_reducible refine q_let8 ?_ | with_reducible refine q_let9 ?_ | with_reducible refine q_let10 ?_ | with_reducible refine q_let11 ?_ | with_reducible refine q_let12 ?_ | with_reducible refine q_let13 ?_ | with_reducible refine q_let14 ?_ | with_reducible refine q_let15 ?_ | with_reducible refine q_let16 ?_ | with_reducible refine q_let17 ?_ | with_reducible refine q_let18 ?_ | with_reducible refine q_let19 ?_ | with_reducible refine q_let20 ?_ | with_reducible refine q_let21 ?_ | with_reducible refine q_let22 ?_ | with_reducible refine q_let23 ?_ | with_reducible refine q_let24 ?_ | with_reducible refine q_let25 ?_ | with_reducible refine q_let26 ?_ | with_reducible refine q_let27 ?_ | with_reducible refine q_let28 ?_ | with_reducible refine q_let29 ?_ | with_reducible refine q_let30 ?_ | with_reducible refine q_let31 ?_ | with_reducible refine q_let32 ?_ | with_reducible refine q_let33 ?_ | with_reducible refine q_let34 ?_ | with_reducible refine q_let35 ?_ | with_reducible refine q_let36 ?_ | with_reducible refine q_let37 ?_ | with_reducible refine q_let38 ?_ | with_reducible refine q_let39 ?_)
local macro_rules | `(tactic| tb_rel) => `(tactic| first | ((with_reducible show qLet _ _ _ _); kp_flats) | ((with_reducible refine' i_dt ?s1 ?_); (case s1 => (first | assumption | rfl))) | ((with_reducible refine' i_df ?s1 ?_); (case s1 => (assumption))) | ((with_reducible refine' i_nf ?s1 ?_); (case s1 => (first | assumption | rfl))) | ((with_reducible refine' i_nt ?s1 ?_); (case s1 => (assumption))) | ((with_reducible refine' i_t ?s1 ?_); (case s1 => (with_unfolding_all rfl))) | ((with_reducible refine' i_f ?s1 ?_); (case s1 => (with_unfolding_all rfl))) | ((with_reducible refine' q_ix_tup ?s1 ?_); (case s1 => (kqd_all))) | ((with_reducible refine' q_ix_ref ?s1 ?s2 ?_); (case s1 => (ke_read)); (case s2 => (kqd_all))) | ((with_reducible refine' q_eq_int ?_)) | ((with_reducible refine' q_ne_int ?_)) | ((with_reducible refine' q_eq_str ?s1 ?s2 ?_); (case s1 => (first | assumption | decide +kernel)); (case s2 => (first | assumption | decide +kernel))) | ((with_reducible refine' q_ne_str ?s1 ?s2 ?_); (case s1 => (first | assumption | decide +kernel)); (case s2 => (first | assumption | decide +kernel))) | ((with_reducible refine' q_len_tup ?_)) | ((with_reducible refine' q_len_ref ?s1 ?_); (case s1 => (ke_read))) | ((with_reducible refine' s_isml ?s1 ?_); (case s1 => (ke_read))) | ((with_reducible refine' q_append2 ?s1 ?s2 ?_); (case s1 => (ked_reads)); (case s2 => (tb_start))) | ((with_reducible refine' q_append0 ?s1 ?_); (case s1 => (tb_start))) | ((with_reducible refine' q_append1 ?s1 ?_); (case s1 => (tb_start))) | ((with_reducible refine' q_append ?s1 ?s2 ?_); (case s1 => (ked_read)); (case s2 => (tb_start))) | ((with_reducible refine' q_cat ?s1 ?s2 ?s3 ?_); (case s1 => (ked_read)); (case s2 => (ked_read)); (case s3 => (tb_start))) | ((with_reducible refine' q_pop0 ?s1 ?_); (case s1 => (ked_read))) | ((with_reducible refine' q_setL2 ?s1 ?s2 ?_); (case s1 => (ked_reads)); (case s2 => (kct_strs))) | ((with_reducible refine' q_setL ?s1 ?s2 ?_); (case s1 => (ked_read)); (case s2 => (kct_strs))) | ((with_reducible refine' q_tup_tup ?_)) | ((with_reducible refine' q_tup_ref ?s1 ?_); (case s1 => (ke_read))) | ((with_reducible refine' q_list_tup ?_)) | ((with_reducible refine' q_list_ref ?s1 ?_); (case s1 => (ke_read))) | ((with_reducible refine' q_sl_tupE ?s1 ?_); (case s1 => (assumption))) | ((with_reducible refine' q_sl_refE ?s1 ?s2 ?_); (case s1 => (ke_read)); (case s2 => (assumption))) | ((with_reducible refine' q_sl_tup ?_)) | ((with_reducible refine' q_sl_ref ?s1 ?_); (case s1 => (ke_read))) | ((with_reducible refine' s_enumI_tup ?_)) | ((with_reducible refine' s_enumI_ref ?s1 ?_); (case s1 => (ke_read))) | ((with_reducible refine' s_seqI_tup ?_)) | ((with_reducible refine' s_seqI_ref ?s1 ?_); (case s1 => (ke_read))) | ((with_reducible refine' q_eq_pn (d := 8) (e := 8) ?s1 ?s2 ?s3 ?s4 ?_); (case s1 => (lsm_bools)); (case s2 => (lsm_bools)); (case s3 => (first | decide | omega)); (case s4 => (first | decide | omega))) | ((with_reducible refine' q_ne_pn (d := 8) (e := 8) ?s1 ?s2 ?s3 ?s4 ?_); (case s1 => (lsm_bools)); (case s2 => (lsm_bools)); (case s3 => (first | decide | omega)); (case s4 => (first | decide | omega))) | ((with_reducible refine' q_eq_lpn (d := 8) (e := 8) ?s1 ?s2 ?s3 ?s4 ?s5 ?s6 ?_); (case s1 => (ke_read)); (case s2 => (ke_read)); (case s3 => (lsm_bools)); (case s4 => (lsm_bools)); (case s5 => (first | decide | omega)); (case s6 => (first | decide | omega))) | ((with_reducible refine' q_ne_lpn (d := 8) (e := 8) ?s1 ?s2 ?s3 ?s4 ?s5 ?s6 ?_); (case s1 => (ke_read)); (case s2 => (ke_read)); (case s3 => (lsm_bools)); (case s4 => (lsm_bools)); (case s5 => (first | decide | omega)); (case s6 => (first | decide | omega))) | ((with_reducible refine' q_is_non ?_)) | ((with_reducible refine' q_isnot_non ?_)) | ((with_reducible refine' q_eq_bl ?_)) | ((with_reducible refine' q_ne_bl ?_)) | ((with_reducible refine' q_isi ?s1 ?s2 ?_); (case s1 => (with_unfolding_all rfl)); (case s2 => (with_unfolding_all rfl))) | ((with_reducible refine' q_in_l (d := 8) (e := 8) ?s1 ?s2 ?s3 ?s4 ?s5 ?_); (case s1 => (ke_read)); (case s2 => (lsm_bools)); (case s3 => (lsm_bools)); (case s4 => (first | decide | omega)); (case s5 => (first | decide | omega))) | ((with_reducible refine' q_in_t (d := 8) (e := 8) ?s1 ?s2 ?s3 ?s4 ?_); (case s1 => (lsm_bools)); (case s2 => (lsm_bools)); (case s3 => (first | decide | omega)); (case s4 => (first | decide | omega))) | ((with_reducible refine' q_notin_l (d := 8) (e := 8) ?s1 ?s2 ?s3 ?s4 ?s5 ?_); (case s1 => (ke_read)); (case s2 => (lsm_bools)); (case s3 => (lsm_bools)); (case s4 => (first | decide | omega)); (case s5 => (first | decide | omega))) | ((with_reducible refine' q_notin_t (d := 8) (e := 8) ?s1 ?s2 ?s3 ?s4 ?_); (case s1 => (lsm_bools)); (case s2 => (lsm_bools)); (case s3 => (first | decide | omega)); (case s4 => (first | decide | omega))) | ((with_reducible refine' q_getL ?s1 ?s2 ?_); (case s1 => (ke_read)); (case s2 => (kqd_all))) | ((with_reducible refine' s_sum ?s1 ?_); (case s1 => (ke_read))) | ((with_reducible refine' s_lstRg ?s1 ?_); (case s1 => (tb_start))) | ((with_reducible refine' s_tupRg ?s1 ?_); (case s1 => (tb_start))) | ((with_reducible refine' s_rng3 ?s1 ?_); (case s1 => (assumption))) | ((with_reducible refine' s_zip_tup ?_)) | ((with_reducible refine' s_zip_ref ?s1 ?s2 ?_); (case s1 => (ke_read)); (case s2 => (ke_read))) | ((with_reducible refine' s_rev_tup ?_)) | ((with_reducible refine' s_rev_ref ?s1 ?_); (case s1 => (ke_read))) | ((with_reducible refine' q_push0 ?s1 ?_); (case s1 => (tb_start))) | ((with_reducible refine' q_push ?s1 ?s2 ?_); (case s1 => (ked_read)); (case s2 => (tb_start))) | ((with_reducible refine' And.intro ?s1 ?_); (case s1 => (tb_start))))
local macro_rules | `(tactic| kbo_bools) => `(tactic| first | with_reducible refine i_d (fun _ => ?_) (fun _ => ?_) | with_reducible refine i_n (fun _ => ?_) (fun _ => ?_))
local macro_rules | `(tactic| keq_rows) => `(tactic| ((conv => whnf); repeat (tb_rel; (conv => whnf))))
local macro_rules | `(tactic| k_upd) => `(tactic| (keq_rows; try (kbo_bools <;> k_upd)))
local macro_rules | `(tactic| kat_tups) => `(tactic| (simp only [startL, List.map_cons, List.map_nil, List.length_cons, List.length_nil, Nat.zero_add, Nat.reduceAdd, Nat.reduceSub, List.reduceReplicate, List.cons_append, List.nil_append]; keq_rows))
local macro_rules | `(tactic| k_updF) => `(tactic| first | assumption | exact Keep.refl _ _ | exact Keep.app _ _ _ | ((with_reducible refine' Keep.app_r ?s1); (case s1 => (k_updF))) | ((with_reducible refine' Keep.set_in ?s1 ?s2); (case s1 => ((simp only [List.mem_cons, true_or, or_true]))); (case s2 => (k_updF))) | ((with_reducible refine' Keep.set_new ?s1 ?s2); (case s1 => (first | omega | (simp only [List.length_append, List.length_cons, List.length_nil, List.length_set] at * <;> omega))); (case s2 => (k_updF))) | exact Ext.keep (by assumption) | ((with_reducible refine' Keep.trans ?a (by assumption)); (case a => (k_updF))) | ((with_reducible refine' Keep.trans ?a (Ext.keep (by assumption))); (case a => (k_updF))))
local macro_rules | `(tactic| lsm_bools) => `(tactic| first | assumption | exact Pl.int _ _ | exact Pn.int _ _ | ((with_reducible refine' Pl.str _ _ ?s1); (case s1 => (first | assumption | decide +kernel))) | ((with_reducible refine' Pn.str _ _ ?s1); (case s1 => (first | assumption | decide +kernel))) | exact Pn.non _ | exact Pl.non _ | exact Pl.bl _ _ | exact Pns.nil _ | exact Pls.nil _ | ((with_reducible refine' Pls.cons ?s1 ?s2); (case s1 => (lsm_bools)); (case s2 => (lsm_bools))) | ((with_reducible refine' Pns.cons ?s1 ?s2); (case s1 => (lsm_bools)); (case s2 => (lsm_bools))) | ((with_reducible refine' Pl.tup ?s1 ?s2); (case s1 => (first | omega | (simp only [List.length_append, List.length_cons, List.length_nil, List.length_map, List.length_set, List.length_take, List.length_drop, List.length_dropLast] <;> omega))); (case s2 => (lsm_bools))) | ((with_reducible refine' Pn.tup ?s1 ?s2); (case s1 => (first | omega | (simp only [List.length_append, List.length_cons, List.length_nil, List.length_map, List.length_set, List.length_take, List.length_drop, List.length_dropLast] <;> omega))); (case s2 => (lsm_bools))))
def t__law_source : ZS :=
    (zSeq (zAsg (zC (.int 20011)) (zgName 1))
    (zSeq (zFor (zSeqI (zSl (zVar 0) zNoPart (zPart (zC (.int 63))))) (zgName 2) (zAsg (zOp qMod (zCall qInt (zCons (zOp qAdd (zOp qAdd (zOp qMul (zVar 1) (zC (.int 137))) (zOp qMod (zCall qInt (zCons (zVar 2) zNil)) (zC (.int 1000003)))) (zC (.int 19))) zNil)) (zC (.int 2147483629))) (zgName 1)))
    (zRet (zLst (zCons (zCall qList (zCons (zSl (zVar 0) zNoPart (zPart (zC (.int 63)))) zNil)) (zCons (zC (.int 0)) (zCons (zC (.int 0)) (zCons (zVar 1) zNil))))))))
def t__law_pick : ZS :=
    (zSeq (zIfS (zAnd (zTb (zOp (qEq false) (zOp qIx (zVar 0) (zC (.int 1))) (zC (.int 0)))) (zTb (zOp qGt (zCall qLen (zCons (zOp qIx (zVar 0) (zC (.int 0))) zNil)) (zC (.int 0))))) (zSeq (zAsg (zCall qInt (zCons (zOp qIx (zOp qIx (zVar 0) (zC (.int 0))) (zC (.int 0))) zNil)) (zgName 2))
    (zSeq (zAsg (zSl (zOp qIx (zVar 0) (zC (.int 0))) (zPart (zC (.int 1))) zNoPart) (zgSub (zVar 0) (zC (.int 0)) qSetL))
    (zSeq (zIfS (zTb (zOp qLt (zCall qAbs (zCons (zVar 2) zNil)) (zOp qPow (zC (.int 10)) (zC (.int 18))))) (zSeq (zAsg (zOp qMod (zCall qInt (zCons (zOp qAdd (zOp qAdd (zOp qMul (zVar 2) (zC (.int 48271))) (zOp qMul (zCall qLen (zCons (zOp qIx (zVar 0) (zC (.int 0))) zNil)) (zC (.int 69621)))) (zC (.int 13))) zNil)) (zC (.int 2147483647))) (zgName 3))
    (zRet (zOp qMod (zCall qInt (zCons (zOp qDiv (zOp qMod (zCall qInt (zCons (zOp qAdd (zOp qMul (zVar 3) (zVar 3)) (zC (.int 3))) zNil)) (zC (.int 2147483629))) (zC (.int 16))) zNil)) (zVar 1)))) zNext)
    (zSeq (zAsg (zCall qAbs (zCons (zVar 2) zNil)) (zgSub (zVar 0) (zC (.int 1)) qSetL))
    (zAsg (zC (.int 60)) (zgSub (zVar 0) (zC (.int 2)) qSetL)))))) zNext)
    (zSeq (zIfS (zTb (zOp qGt (zOp qIx (zVar 0) (zC (.int 1))) (zC (.int 0)))) (zSeq (zAsg (zOp qMod (zCall qInt (zCons (zOp qIx (zVar 0) (zC (.int 1))) zNil)) (zVar 1)) (zgName 4))
    (zSeq (zAsg (zOp qSub (zOp qIx (zVar 0) (zC (.int 2))) (zC (.int 1))) (zgSub (zVar 0) (zC (.int 2)) qSetL))
    (zSeq (zAsg (zOp qMul (zOp qDiv (zOp qIx (zVar 0) (zC (.int 1))) (zVar 1)) (zCall qInt (zCons (zOp qGt (zOp qIx (zVar 0) (zC (.int 2))) (zC (.int 0))) zNil))) (zgSub (zVar 0) (zC (.int 1)) qSetL))
    (zRet (zVar 4))))) zNext)
    (zSeq (zAsg (zOp qMod (zCall qInt (zCons (zOp qAdd (zOp qMul (zOp qIx (zVar 0) (zC (.int 3))) (zC (.int 48271))) (zC (.int 12841))) zNil)) (zC (.int 2147483647))) (zgSub (zVar 0) (zC (.int 3)) qSetL))
    (zRet (zOp qMod (zCall qInt (zCons (zOp qDiv (zOp qIx (zVar 0) (zC (.int 3))) (zC (.int 64))) zNil)) (zVar 1))))))
def t__law_of (sp__law_pick : ZC) : ZS :=
    (zRet (zOp qIx (zVar 1) (zCallF 2 sp__law_pick (zCons (zVar 0) (zCons (zCall qLen (zCons (zVar 1) zNil)) zNil)))))
def t__law_stirred (sp__law_pick : ZC) : ZS :=
    (zSeq (zAsg (zCall qList (zCons (zVar 1) zNil)) (zgName 2))
    (zRet (zLc (zRngI (zCons (zCall qLen (zCons (zVar 1) zNil)) zNil)) (zgName 3) (fun _ S K => K true S) (zMl qPop (zVar 2) (zCons (zCallF 2 sp__law_pick (zCons (zVar 0) (zCons (zCall qLen (zCons (zVar 2) zNil)) zNil))) zNil)) [3])))
def t__law_same (sp__law_same : ZC) : ZS :=
    (zSeq (zIfS (zTru (zCall qIsi (zCons (zVar 1) (zCons (zC (.ty "tuple")) zNil)))) (zSeq (zIfS (zOr (zNot (zTru (zCall qIsi (zCons (zVar 0) (zCons (zC (.ty "tuple")) zNil))))) (zTb (zOp (qEq true) (zCall qLen (zCons (zVar 0) zNil)) (zCall qLen (zCons (zVar 1) zNil))))) (zRet (zC (.bl false))) zNext)
    (zSeq (zFor (zRngI (zCons (zCall qLen (zCons (zVar 1) zNil)) zNil)) (zgName 2) (zIfS (zNot (zTru (zCallF 2 sp__law_same (zCons (zOp qIx (zVar 0) (zVar 2)) (zCons (zOp qIx (zVar 1) (zVar 2)) zNil))))) (zRet (zC (.bl false))) zNext))
    (zRet (zC (.bl true))))) zNext)
    (zSeq (zIfS (zTb (zOp (qIsN false) (zVar 1) (zC .non))) (zRet (zOp (qIsN false) (zVar 0) (zC .non))) zNext)
    (zSeq (zIfS (zTru (zCall qIsi (zCons (zVar 1) (zCons (zC (.ty "bool")) zNil)))) (zRet (zAndV (zCall qIsi (zCons (zVar 0) (zCons (zC (.ty "bool")) zNil))) (zOp (qEq false) (zVar 0) (zVar 1)))) zNext)
    (zSeq (zIfS (zTru (zCall qIsi (zCons (zVar 1) (zCons (zC (.ty "int")) zNil)))) (zRet (zAndV (zCall qIsi (zCons (zVar 0) (zCons (zC (.ty "int")) zNil))) (zAndV (zNotV (zCall qIsi (zCons (zVar 0) (zCons (zC (.ty "bool")) zNil)))) (zOp (qEq false) (zVar 0) (zVar 1))))) zNext)
    (zRet (zAndV (zCall qIsi (zCons (zVar 0) (zCons (zC (.ty "str")) zNil))) (zOp (qEq false) (zVar 0) (zVar 1))))))))

abbrev EndK (K : WK) : ZEnds := { nx := fun _ S' => K .non S', rt := K }
/-- the source at n, its row of cells at g -/
def SrcOk (S : Store) (n g : Nat) : Prop := ∃ (gs : List Int) (v r mixed : Int), S[n]? = some (.lst [.ref g, .int v, .int r, .int mixed]) ∧ S[g]? = some (.lst (gs.map W.int)) ∧ gs.length ≤ 63 ∧ g ≠ n
theorem SrcOk.lt {S : Store} {n g : Nat} (h : SrcOk S n g) : n < S.length ∧ g < S.length ∧ g ≠ n := by
  obtain ⟨gs, v, r, mixed, h1, h2, _, h3⟩ := h
  exact ⟨lt_of_get h1, lt_of_get h2, h3⟩
theorem SrcOk.keep {ms : List Nat} {S S' : Store} {n g : Nat} (h : SrcOk S n g) (k : Keep ms S S') (hn : n ∉ ms) (hm : g ∉ ms) : SrcOk S' n g := by
  obtain ⟨gs, v, r, mixed, h1, h2, h3⟩ := h
  exact ⟨gs, v, r, mixed, k _ _ hn h1, k _ _ hm h2, h3⟩
theorem SrcOk.ext {S S' : Store} {n g : Nat} (h : SrcOk S n g) (k : Ext S S') : SrcOk S' n g := h.keep k (by simp) (by simp)
@[irreducible] def sp__law_source : ZC := fun ws S K => ∃ (s : Nat) (ns : List Int), ws = [.ref s] ∧ IsLst S s (ns.map W.int) ∧ ∀ n g S', Ext S S' → S.length ≤ g → S.length ≤ n → SrcOk S' n g → K (.ref n) S'
theorem c__law_source {s : Nat} {ns : List Int} {S : Store} {K : WK} (h1 : IsLst S s (ns.map W.int)) (h : ∀ n g S', Ext S S' → S.length ≤ g → S.length ≤ n → SrcOk S' n g → K (.ref n) S') : sp__law_source [.ref s] S K := by unfold sp__law_source; exact ⟨s, ns, rfl, h1, h⟩
theorem u__law_source (ws : List W) (S : Store) (K : WK) (h : sp__law_source ws S K) (hl : ws.length = 1) : t__law_source (EndK K) (startL 3 ws) S := by
  unfold sp__law_source at h
  obtain ⟨s, ns, rfl, hs, h⟩ := h
  have hc : cut (ns.map W.int) none (some 63) = (ns.take 63).map W.int := by
    have := cut_to (ns.map W.int) 63
    rw [← List.map_take] at this
    exact this
  kat_tups
  refine forI (fun i L S1 => ∃ (mx : Int) (x : Option W), L = [some (.ref s), some (.int mx), x] ∧ S1 = S ++ [.lst ((ns.take 63).map W.int)]) ⟨_, _, rfl, rfl⟩ ?_ ?_ ?_
  · rintro i L S1 ⟨mx, x, rfl, rfl⟩
    ke_read
  · rintro i w L S1 hw ⟨mx, x, rfl, rfl⟩
    rw [List.getElem?_map] at hw
    obtain ⟨c, hc, rfl⟩ := Option.map_eq_some_iff.mp hw
    keq_rows
    exact ⟨_, _, rfl, rfl⟩
  · rintro L S1 ⟨mx, x, rfl, rfl⟩
    keq_rows
    refine h _ _ _ ((((Keep.app _ _ _).trans (Keep.app _ _ _)).trans (Keep.app _ _ _)).trans (Keep.app _ _ _)) (by simp) (by simp) ⟨ns.take 63, 0, 0, mx, (app_get0 _ _).trans rfl, ?_, by rw [List.length_take]; omega, by simp⟩
    exact app_l ((app_get0 _ _).trans rfl)
@[irreducible] def sp__law_pick : ZC := fun ws S K => ∃ n g many, ws = [.ref n, .int many] ∧ SrcOk S n g ∧ DivOk 0 many ∧ ∀ r S' g', 0 ≤ r → r < many → (g' = g ∨ S.length ≤ g') → Keep [n] S S' → SrcOk S' n g' → K (.int r) S'
theorem c__law_pick {n g : Nat} {many : Int} {S : Store} {K : WK} (h1 : SrcOk S n g) (h2 : DivOk 0 many) (h : ∀ r S' g', 0 ≤ r → r < many → (g' = g ∨ S.length ≤ g') → Keep [n] S S' → SrcOk S' n g' → K (.int r) S') : sp__law_pick [.ref n, .int many] S K := by unfold sp__law_pick; exact ⟨n, g, many, rfl, h1, h2, h⟩
theorem src_set {S : Store} {n g : Nat} {gs : List Int} {v r mixed v' r' mixed' : Int} (h1 : S[n]? = some (.lst [.ref g, .int v, .int r, .int mixed])) (h2 : S[g]? = some (.lst (gs.map W.int))) (hg : gs.length ≤ 63) (h3 : g ≠ n) :
    SrcOk (S.set n (.lst [.ref g, .int v', .int r', .int mixed'])) n g :=
  ⟨gs, v', r', mixed', List.getElem?_set_self (lt_of_get h1), by rw [List.getElem?_set_ne (Ne.symm h3)]; exact h2, hg, h3⟩
theorem src_new {S : Store} {n : Nat} {gs : List Int} {o : O} {v' r' mixed' : Int} (h1 : S[n]? = some o) (hg : gs.length ≤ 63) :
    SrcOk ((S ++ [O.lst (gs.map W.int)]).set n (.lst [.ref S.length, .int v', .int r', .int mixed'])) n S.length :=
  ⟨gs, v', r', mixed', List.getElem?_set_self (by rw [List.length_append]; have := lt_of_get h1; omega), by rw [List.getElem?_set_ne (by have := lt_of_get h1; omega)]; simp, hg, by have := lt_of_get h1; omega⟩
theorem src_new2 {S : Store} {n : Nat} {gs : List Int} {o o' : O} {v' r' mixed' : Int} (h1 : S[n]? = some o) (hg : gs.length ≤ 63) :
    SrcOk (((S ++ [O.lst (gs.map W.int)]).set n o').set n (.lst [.ref S.length, .int v', .int r', .int mixed'])) n S.length := by
  rw [List.set_set]
  exact src_new h1 hg
theorem u__law_pick (ws : List W) (S : Store) (K : WK) (h : sp__law_pick ws S K) (hl : ws.length = 2) : t__law_pick (EndK K) (startL 5 ws) S := by
  unfold sp__law_pick at h
  obtain ⟨n, g, many, rfl, ⟨gs, v, r, mixed, h1, h2, hg, h3⟩, ⟨h5, h6⟩, h⟩ := h
  have hdv : DivOk 0 many := ⟨h5, h6⟩
  have hn := lt_of_get h1
  cases gs with
  | nil =>
    kat_tups
    kbo_bools
    all_goals k_upd
    all_goals exact h _ _ _ (Int.emod_nonneg _ (by omega)) (Int.emod_lt_of_pos _ h5) (.inl rfl) (Keep.set_in (by simp) (Keep.refl _ _)) (src_set h1 h2 hg h3)
  | cons x gs =>
    have hc : cut ((x :: gs).map W.int) (some 1) none = gs.map W.int := cut_from ((x :: gs).map W.int) 1
    have hg' : gs.length ≤ 63 := by simp at hg; omega
    kat_tups
    kbo_bools
    all_goals k_upd
    all_goals first
      | exact h _ _ _ (Int.emod_nonneg _ (by omega)) (Int.emod_lt_of_pos _ h5) (.inl rfl) (Keep.set_in (by simp) (Keep.refl _ _)) (src_set h1 h2 hg h3)
      | exact h _ _ _ (Int.emod_nonneg _ (by omega)) (Int.emod_lt_of_pos _ h5) (.inr (Nat.le_refl _)) (Keep.set_in (by simp) (Keep.app _ _ _)) (src_new h1 hg')
      | exact h _ _ _ (Int.emod_nonneg _ (by omega)) (Int.emod_lt_of_pos _ h5) (.inr (Nat.le_refl _)) (Keep.set_in (by simp) (Keep.set_in (by simp) (Keep.app _ _ _))) (src_new2 h1 hg')

theorem DivOk.len {k : Nat} (h1 : 0 < k) (h2 : k ≤ 16777216) : DivOk 0 (k : Int) := DivOk.small (by omega) (by omega)
/-- a row: a tuple, or a list that is not the source's -/
def RowAt (S : Store) (n g : Nat) (row : W) (xs : List W) : Prop := row = .tup xs ∨ ∃ q, row = .ref q ∧ IsLst S q xs ∧ q ≠ n
@[irreducible] def sp__law_of : ZC := fun ws S K => ∃ n g row xs, ws = [.ref n, row] ∧ SrcOk S n g ∧ RowAt S n g row xs ∧ 0 < xs.length ∧ xs.length ≤ 16777216 ∧ ∀ x S' g', x ∈ xs → (g' = g ∨ S.length ≤ g') → Keep [n] S S' → SrcOk S' n g' → K x S'
theorem c__law_of {n g : Nat} {row : W} {xs : List W} {S : Store} {K : WK} (h1 : SrcOk S n g) (h2 : RowAt S n g row xs) (h3 : 0 < xs.length) (h4 : xs.length ≤ 16777216) (h : ∀ x S' g', x ∈ xs → (g' = g ∨ S.length ≤ g') → Keep [n] S S' → SrcOk S' n g' → K x S') : sp__law_of [.ref n, row] S K := by unfold sp__law_of; exact ⟨n, g, row, xs, rfl, h1, h2, h3, h4, h⟩
theorem u__law_of (ws : List W) (S : Store) (K : WK) (h : sp__law_of ws S K) (hl : ws.length = 2) : t__law_of sp__law_pick (EndK K) (startL 2 ws) S := by
  unfold sp__law_of at h
  obtain ⟨n, g, row, xs, rfl, h1, h2, h3, h4, h⟩ := h
  rcases h2 with rfl | ⟨q, rfl, hq, q1⟩
  · kat_tups
    refine c__law_pick h1 (DivOk.len h3 h4) fun r S' g' a b gg c d => ?_
    obtain ⟨k, rfl⟩ : ∃ k : Nat, r = (k : Int) := ⟨r.toNat, by omega⟩
    have h5 : k < xs.length := by omega
    have h6 : xs[k]? = some xs[k] := List.getElem?_eq_getElem h5
    keq_rows
    exact h _ _ _ (List.getElem_mem h5) gg c d
  · kat_tups
    refine c__law_pick h1 (DivOk.len h3 h4) fun r S' g' a b gg c d => ?_
    obtain ⟨k, rfl⟩ : ∃ k : Nat, r = (k : Int) := ⟨r.toNat, by omega⟩
    have h5 : k < xs.length := by omega
    have h6 : xs[k]? = some xs[k] := List.getElem?_eq_getElem h5
    have h7 := c.lst (by simp; exact q1) hq
    keq_rows
    exact h _ _ _ (List.getElem_mem h5) gg c d
@[irreducible] def sp__law_same (d : Nat) : ZC := fun ws S K => ∃ x, ws = [x, x] ∧ Pl d x ∧ ∀ S', Ext S S' → K (.bl true) S'
theorem c__law_same {d : Nat} {x : W} {S : Store} {K : WK} (h1 : Pl d x) (h : ∀ S', Ext S S' → K (.bl true) S') : sp__law_same d [x, x] S K := by unfold sp__law_same; exact ⟨x, rfl, h1, h⟩
theorem c__law_sameE {d : Nat} {x y : W} {S : Store} {K : WK} (e : x = y) (h1 : Pl d x) (h : ∀ S', Ext S S' → K (.bl true) S') : sp__law_same d [x, y] S K := e ▸ c__law_same h1 h
theorem u__law_same (d : Nat) (sp : ZC) (hs : ∀ (e : Nat), d = e + 1 → sp = sp__law_same e) (ws : List W) (S : Store) (K : WK) (h : sp__law_same d ws S K) (hl : ws.length = 2) : t__law_same sp (EndK K) (startL 3 ws) S := by
  unfold sp__law_same at h
  obtain ⟨x, rfl, hp, h⟩ := h
  cases hp with
  | non => kat_tups; exact h _ (Keep.refl _ _)
  | bl => kat_tups; simpa using h _ (Keep.refl _ _)
  | int => kat_tups; simpa using h _ (Keep.refl _ _)
  | str => kat_tups; simpa using h _ (Keep.refl _ _)
  | @tup d xs hz hp =>
    cases hs _ rfl
    kat_tups
    refine forI (fun i L S' => ∃ x2, L = [some (.tup xs), some (.tup xs), x2] ∧ Ext S S') ⟨_, rfl, Keep.refl _ _⟩ (fun _ _ _ _ => trivial) ?_ ?_
    · rintro i w L S2 hw ⟨x2, rfl, k2⟩
      obtain ⟨hi, rfl⟩ := rangeW_inv0 hw
      have e : xs[i]? = some xs[i] := List.getElem?_eq_getElem (by omega)
      keq_rows
      refine c__law_same (hp.get e) fun S' k' => ?_
      keq_rows
      exact ⟨_, rfl, k2.trans k'⟩
    · rintro L S2 ⟨x2, rfl, k2⟩
      keq_rows
      exact h _ k2
section
variable {L : Loc'} {S1 : Store} {K : WK} {te : ZE} {tt : ZT} {g0 : ZTG} {vs : List Nat} {its : List W} {G : Store → Prop} {n g : Nat}
/-- a list whose elements are drawn: Q of the number and the element -/
theorem lcSrc (Q : Nat → W → Prop) (hr : SrcOk S1 n g) (hG : ∀ S, Keep [n] S1 S → G S) (hsz : its.length ≤ sizeLine)
    (turn : ∀ (i : Nat) (w : W) (S2 : Store) (g2 : Nat) (Kt : WK), its[i]? = some w → SrcOk S2 n g2 → (g2 = g ∨ S1.length < g2) → Keep [n] S1 S2 → S1.length < S2.length → (∀ y S3 g3, Keep [n] S2 S3 → SrcOk S3 n g3 → (g3 = g2 ∨ S2.length ≤ g3) → Q i y → Kt y S3) → qWipe L vs fun L0 => g0 w L0 S2 fun L' S3 => te L' S3 Kt)
    (done : ∀ (ys : List W) S2 g2, ys.length = its.length → (∀ i y, ys[i]? = some y → Q i y) → SrcOk S2 n g2 → (g2 = g ∨ S1.length < g2) → Keep [n] S1 S2 → S2[S1.length]? = some (.lst ys) → K (.ref S1.length) S2) : LcEnd ⟨its, G⟩ g0 (fun _ S K => K true S) te vs L S1 K := by
  obtain ⟨l1, l2, l3⟩ := hr.lt
  refine lcI [n] (fun S => ∃ g2, SrcOk S n g2 ∧ (g2 = g ∨ S1.length < g2)) (fun i acc => acc.length = i ∧ ∀ j y, acc[j]? = some y → Q j y) (by simp; omega) (by simp; omega) (fun S o ⟨g2, h, hg⟩ hl => ⟨g2, h.keep (Keep.set _ _ _) (by simp; omega) (by simp; omega), hg⟩) ⟨g, hr.ext (Keep.app _ _ _), .inl rfl⟩ hG ⟨rfl, by simp⟩ ?_ ?_ ?_
  · rintro i acc hi ⟨h1, _⟩
    omega
  · rintro i acc w S2 Kt Kf hw ⟨h1, h2⟩ ⟨g2, h3, hg⟩ h4 hlt hK _
    have := turn i w S2 g2 Kt hw h3 hg h4 hlt fun y S3 g3 k3 r3 hg3 q => hK y S3 k3 ⟨g3, r3, by omega⟩ ⟨by simp [h1], fun j z hz => ?_⟩
    · simp only [qIf_t]
      exact this
    · by_cases hj : j < acc.length
      · rw [List.getElem?_append_left hj] at hz
        exact h2 j z hz
      · rw [List.getElem?_append_right (by omega)] at hz
        have e : j - acc.length = 0 := by
          cases hq : j - acc.length with
          | zero => rfl
          | succ k => rw [hq] at hz; simp at hz
        rw [e] at hz
        have e2 : j = i := by omega
        cases hz
        rw [e2]; exact q
  · rintro acc S2 ⟨h1, h2⟩ ⟨g2, h3, hg⟩ h4 h5
    exact done acc S2 g2 h1 h2 h3 hg h4 h5
end
@[irreducible] def sp__law_stirred : ZC := fun ws S K => ∃ n g row xs, ws = [.ref n, row] ∧ SrcOk S n g ∧ RowAt S n g row xs ∧ xs.length ≤ 16777216 ∧ ∀ ys S' q g', ys.Perm xs → (g' = g ∨ S.length ≤ g') → g' ≠ q → Keep [n] S S' → SrcOk S' n g' → S.length ≤ q → S'[q]? = some (.lst ys) → K (.ref q) S'
theorem c__law_stirred {n g : Nat} {row : W} {xs : List W} {S : Store} {K : WK} (h1 : SrcOk S n g) (h2 : RowAt S n g row xs) (h4 : xs.length ≤ 16777216) (h : ∀ ys S' q g', ys.Perm xs → (g' = g ∨ S.length ≤ g') → g' ≠ q → Keep [n] S S' → SrcOk S' n g' → S.length ≤ q → S'[q]? = some (.lst ys) → K (.ref q) S') : sp__law_stirred [.ref n, row] S K := by unfold sp__law_stirred; exact ⟨n, g, row, xs, rfl, h1, h2, h4, h⟩
theorem perm_erase {α : Type} {ys : List α} {k : Nat} {x : α} (h : ys[k]? = some x) : (x :: ys.eraseIdx k).Perm ys := FC.perm_erase h
theorem u__law_stirred (ws : List W) (S : Store) (K : WK) (h : sp__law_stirred ws S K) (hl : ws.length = 2) : t__law_stirred sp__law_pick (EndK K) (startL 4 ws) S := by
  unfold sp__law_stirred at h
  obtain ⟨n, g, row, xs, rfl, h1, h2, h4, h⟩ := h
  have hlt := h1.lt
  have body : LcEnd ⟨rangeW 0 xs.length, fun _ => True⟩ (zgName 3) (fun _ S K => K true S) (zMl qPop (zVar 2) (zCons (zCallF 2 sp__law_pick (zCons (zVar 0) (zCons (zCall qLen (zCons (zVar 2) zNil)) zNil))) zNil)) [3] [some (.ref n), some row, some (.ref S.length), none] (S ++ [.lst xs]) K := by
    have hS2 : (S ++ [O.lst xs]).length = S.length + 1 := by simp
    refine lcP (fun i acc S' => acc.length = i ∧ Keep [n] S S' ∧ S'[S.length + 1]? = some (.lst acc) ∧ (∃ g', SrcOk S' n g' ∧ (g' = g ∨ S.length + 1 < g')) ∧ ∃ rest, S'[S.length]? = some (.lst rest) ∧ (acc ++ rest).Perm xs) ?_ ?_ (by rw [rangeW_length]; exact s_sz h4) ?_ ?_
    · exact ⟨rfl, ((Keep.app [n] S [O.lst xs]).trans (Keep.app _ _ _)), by rw [List.getElem?_append_right (by omega), hS2]; simp, ⟨g, (h1.ext (Keep.app _ _ _)).ext (Keep.app _ _ _), .inl rfl⟩, xs, app_l (by simp), .refl _⟩
    · rintro i acc S' ⟨e1, e3, e4, e2, e5⟩
      exact ⟨trivial, by rw [hS2]; exact e4, by omega⟩
    · rintro i acc w S3 Kt Kf hw ⟨e1, e3, e4, ⟨g3, e2, hg3⟩, rest, e5, e6⟩ hK _
      obtain ⟨hi, rfl⟩ := rangeW_inv0 hw
      have hl := e6.length_eq
      rw [List.length_append] at hl
      have hlt3 := e2.lt
      have h4l := lt_of_get e4
      keq_rows
      refine c__law_pick e2 (DivOk.len (by omega) (by omega)) fun q S4 g4 a b hg4 c d => ?_
      obtain ⟨k, rfl⟩ : ∃ k : Nat, q = (k : Int) := ⟨q.toNat, by omega⟩
      have hk : k < rest.length := by omega
      have h6 : rest[k]? = some rest[k] := List.getElem?_eq_getElem hk
      have f5 := c _ _ (by simp; omega) e5
      have f4 := c _ _ (by simp; omega) e4
      keq_rows
      refine q_popi f5 h6 (by omega) (hK _ _ ?_ ⟨by simp [e1], ?_, ?_, ⟨g4, ?_, by omega⟩, rest.eraseIdx k, ?_, ?_⟩)
      · rw [hS2]; exact set_ne' (by omega) f4
      · rw [hS2]
        exact Keep.set_new (by omega) (Keep.set_new (Nat.le_refl _) (e3.trans c))
      · rw [hS2]
        exact List.getElem?_set_self (by rw [List.length_set]; exact lt_of_get f4)
      · exact (d.keep (ms := [S.length]) (Keep.set _ _ _) (by simp; omega) (by simp; omega)).keep (ms := [(S ++ [O.lst xs]).length]) (Keep.set _ _ _) (by simp; omega) (by simp; omega)
      · rw [hS2]
        exact set_ne' (by omega) (List.getElem?_set_self (lt_of_get f5))
      · rw [List.append_assoc]
        exact (List.Perm.append_left acc (perm_erase h6)).trans e6
    · rintro acc S3 ⟨e1, e3, e4, ⟨g3, e2, hg3⟩, rest, e5, e6⟩
      rw [rangeW_length] at e1
      have hl := e6.length_eq
      rw [List.length_append] at hl
      have : rest = [] := List.eq_nil_of_length_eq_zero (by omega)
      subst this
      rw [List.append_nil] at e6
      rw [hS2]
      exact h acc S3 _ g3 e6 (by omega) (by omega) e3 e2 (by omega) e4
  rcases h2 with rfl | ⟨q, rfl, hq, q1⟩
  · kat_tups
    rw [Int.toNat_natCast]
    exact body
  · kat_tups
    rw [Int.toNat_natCast]
    exact body
end FS

set_option maxHeartbeats 2000000
/-! Z23: more steps. -/
namespace Z
open PySem PySem.Spec PyProof.Rows L2
/-- a list times an int -/
theorem s_rep {S : Store} {n : Nat} {xs : List W} {q : List W → Prop} (e : S[n]? = some (.lst xs)) (h : q xs) : ∃ xs, S[n]? = some (.lst xs) ∧ q xs := ⟨xs, e, h⟩
theorem rangeW_map (n : Nat) : rangeW 0 n = (List.range n).map fun (i : Nat) => W.int (i : Int) := by
  unfold rangeW
  congr 1
  funext i
  rw [Int.zero_add]
theorem filterMap_if {α β : Type} (p : α → Bool) (φ : α → β) (xs : List α) : (xs.filterMap fun a => if p a then some (φ a) else none) = (xs.filter p).map φ := by
  induction xs with
  | nil => rfl
  | cons a l ih =>
    by_cases h : p a = true
    · rw [List.filter_cons_of_pos h, List.filterMap_cons_some (by rw [if_pos h]), List.map_cons, ih]
    · rw [List.filter_cons_of_neg h, List.filterMap_cons_none (by rw [if_neg h]), ih]
theorem range_at {n i a : Nat} (h : (List.range n)[i]? = some a) : a = i ∧ i < n := by
  have hi := (List.getElem?_eq_some_iff.mp h).1
  rw [List.length_range] at hi
  rw [List.getElem?_range hi] at h
  exact ⟨(Option.some.inj h).symm, hi⟩
abbrev natsI (xs : List Nat) : List Int := xs.map fun (i : Nat) => (i : Int)
theorem nats_W (xs : List Nat) : xs.map (fun (i : Nat) => W.int (i : Int)) = (natsI xs).map W.int := by rw [List.map_map]; rfl
end Z

set_option maxHeartbeats 4000000
namespace L83
open PySem PySem.Spec PyProof.Rows L2 Z
def topS (i : Nat) : Stmt := PySem.Challenge.pw_whoseitis_k83_bags_by_misreadings.main.body.getD i (.Pass ⟨0, 0, 0, 0⟩)
/-- the built-ins are not the module's names -/
structure Bl (mg : Str → Option Value) : Prop where
  abs : mg "abs" = none
  bool : mg "bool" = none
  enumerate : mg "enumerate" = none
  int : mg "int" = none
  isinstance : mg "isinstance" = none
  len : mg "len" = none
  list : mg "list" = none
  min : mg "min" = none
  range : mg "range" = none
  str : mg "str" = none
  tuple : mg "tuple" = none
abbrev s_misreads_to : Stmt := topS 1
abbrev nN_misreads_to : List Str := ["gates", "tag"]
theorem sc_misreads_to : FnScope nN_misreads_to ["gates", "tag"] (defScope s_misreads_to) := ⟨rfl, rfl, rfl, by decide +kernel, rfl, by decide +kernel, by decide +kernel⟩
def t_misreads_to (sp_misreads_past : ZC) : ZS :=
    (zRet (zCallF 3 sp_misreads_past (zCons (zVar 0) (zCons (zVar 1) (zCons (zUn qNeg (zC (.int 1))) zNil)))))
theorem b_misreads_to {P : Program} {w : World} {K : PySem.W.Frag} {mg : Str → Option Value} {base : Heap} {TB : List Addr} {k : Nat} {f : Addr} {sp_misreads_past : ZC} (c_misreads_past : Cal P w K mg base TB k "misreads_past" 3 sp_misreads_past) (cdv : Value) (A : Around) (outer : List Env) (s : Shared) (H : Hp) (E : XK)
    (hr : Room k (A.deeper (envOfC "misreads_to" (defScope s_misreads_to) s.heap.objs.size f cdv))) : ZPSs TB (cxOf CX0 P w K mg base nN_misreads_to "misreads_to" (defScope s_misreads_to) f cdv A outer s H E).nox (defBody s_misreads_to) (t_misreads_to sp_misreads_past) := by
  have nd := sc_misreads_to.nd
  have h : ∃ t, ZPSs TB (cxOf CX0 P w K mg base nN_misreads_to "misreads_to" (defScope s_misreads_to) f cdv A outer s H E).nox (defBody s_misreads_to) t ∧ t = t_misreads_to sp_misreads_past := ⟨_, (zs_one (z_ret (z_cal c_misreads_past hr rfl (zpa_cons (z_var 0) (zpa_cons (z_var 1) (zpa_cons (z_un zo_neg z_int) zpa_nil)))))), rfl⟩
  obtain ⟨_, h, rfl⟩ := h
  exact h
abbrev s_may_come : Stmt := topS 2
abbrev nN_may_come : List Str := ["gates", "tag", "misreads", "least", "door"]
theorem sc_may_come : FnScope nN_may_come ["gates", "tag", "misreads"] (defScope s_may_come) := ⟨rfl, rfl, rfl, by decide +kernel, rfl, by decide +kernel, by decide +kernel⟩
def t_may_come (sp_misreads_to : ZC) : ZS :=
    (zSeq (zAsg (zCallF 2 sp_misreads_to (zCons (zVar 0) (zCons (zVar 1) zNil))) (zgName 3))
    (zRet (zTupG (zRngI (zCons (zC (.int 10)) zNil)) (zgName 4) (zTb (zChain qLeI qLeI (zC (.int 0)) (zOp qIx (zVar 3) (zVar 4)) (zVar 2))) (zVar 4) [4])))
theorem b_may_come {P : Program} {w : World} {K : PySem.W.Frag} {mg : Str → Option Value} {base : Heap} {TB : List Addr} {k : Nat} {f : Addr} {sp_misreads_to : ZC} (hB : Bl mg) (c_misreads_to : Cal P w K mg base TB k "misreads_to" 2 sp_misreads_to) (cdv : Value) (A : Around) (outer : List Env) (s : Shared) (H : Hp) (E : XK)
    (hr : Room (k + 1) (A.deeper (envOfC "may_come" (defScope s_may_come) s.heap.objs.size f cdv))) (hcx : ZRoot TB (cxOf CX0 P w K mg base nN_may_come "may_come" (defScope s_may_come) f cdv A outer s H E).nox) : ZPSs TB (cxOf CX0 P w K mg base nN_may_come "may_come" (defScope s_may_come) f cdv A outer s H E).nox (defBody s_may_come) (t_may_come sp_misreads_to) := by
  have nd := sc_may_come.nd
  have n0 : (".0" : Str) ∉ nN_may_come := by decide
  have h : ∃ t, ZPSs TB (cxOf CX0 P w K mg base nN_may_come "may_come" (defScope s_may_come) f cdv A outer s H E).nox (defBody s_may_come) t ∧ t = t_may_come sp_misreads_to := ⟨_, (zs_cons (z_set (i := 3) nd rfl (Or.inr rfl) (z_cal c_misreads_to (hr.mono (by omega)) rfl (zpa_cons (z_var 0) (zpa_cons (z_var 1) zpa_nil))))
    (zs_one (z_ret (z_gTup (own := [("door", 4)]) ⟨hcx.cx, hr, (zi_range1 (by rfl) hB.range (zpa_cons z_int zpa_nil)), (blkOk_by (N := nN_may_come) (sc := defScope s_may_come) (by decide +kernel)), nd, n0, rfl, rfl, (fun _ => rfl)⟩ ⟨fun A1 s1 H1 cl1 C1 fp1 code1 hcx1 hr1 => ⟨(zgc_name (i := 4) nd rfl (Or.inl rfl) (by decide)), (zts_one (z_tchain zo_le zo_le z_int (z_ix zi_any (z_var 3) (z_var 4) (fun _ _ => rfl)) (z_var 2))), (z_var 4)⟩⟩ (by rfl) hB.tuple)))), rfl⟩
  obtain ⟨_, h, rfl⟩ := h
  exact h
abbrev s_whose_bag : Stmt := topS 3
abbrev nN_whose_bag : List Str := ["gates", "door", "misreads", "tag"]
theorem sc_whose_bag : FnScope nN_whose_bag ["gates", "door", "misreads"] (defScope s_whose_bag) := ⟨rfl, rfl, rfl, by decide +kernel, rfl, by decide +kernel, by decide +kernel⟩
def t_whose_bag (sp_may_come : ZC) : ZS :=
    (zRet (zTupG (zRngI (zCons (zCall qLen (zCons (zOp qIx (zVar 0) (zC (.int 0))) zNil)) zNil)) (zgName 3) (zTb (zOp (qIn false) (zVar 1) (zCallF 3 sp_may_come (zCons (zVar 0) (zCons (zVar 3) (zCons (zVar 2) zNil)))))) (zVar 3) [3]))
theorem b_whose_bag {P : Program} {w : World} {K : PySem.W.Frag} {mg : Str → Option Value} {base : Heap} {TB : List Addr} {k : Nat} {f : Addr} {sp_may_come : ZC} (hB : Bl mg) (c_may_come : Cal P w K mg base TB k "may_come" 3 sp_may_come) (cdv : Value) (A : Around) (outer : List Env) (s : Shared) (H : Hp) (E : XK)
    (hr : Room (k + 1) (A.deeper (envOfC "whose_bag" (defScope s_whose_bag) s.heap.objs.size f cdv))) (hcx : ZRoot TB (cxOf CX0 P w K mg base nN_whose_bag "whose_bag" (defScope s_whose_bag) f cdv A outer s H E).nox) : ZPSs TB (cxOf CX0 P w K mg base nN_whose_bag "whose_bag" (defScope s_whose_bag) f cdv A outer s H E).nox (defBody s_whose_bag) (t_whose_bag sp_may_come) := by
  have nd := sc_whose_bag.nd
  have n0 : (".0" : Str) ∉ nN_whose_bag := by decide
  have h : ∃ t, ZPSs TB (cxOf CX0 P w K mg base nN_whose_bag "whose_bag" (defScope s_whose_bag) f cdv A outer s H E).nox (defBody s_whose_bag) t ∧ t = t_whose_bag sp_may_come := ⟨_, (zs_one (z_ret (z_gTup (own := [("tag", 3)]) ⟨hcx.cx, hr, (zi_range1 (by rfl) hB.range (zpa_cons (z_callB zc_len (by rfl) hB.len (by decide +kernel) (zpa_cons (z_ix zi_any (z_var 0) z_int (fun _ _ => rfl)) zpa_nil)) zpa_nil)), (blkOk_by (N := nN_whose_bag) (sc := defScope s_whose_bag) (by decide +kernel)), nd, n0, rfl, rfl, (fun _ => rfl)⟩ ⟨fun A1 s1 H1 cl1 C1 fp1 code1 hcx1 hr1 => ⟨(zgc_name (i := 3) nd rfl (Or.inl rfl) (by decide)), (zts_one (z_tcmp (zo_in (hu65 hr1)) (z_var 1) (z_cal c_may_come (hr1.mono (by omega)) rfl (zpa_cons (z_var 0) (zpa_cons (z_var 3) (zpa_cons (z_var 2) zpa_nil)))) (by rfl))), (z_var 3)⟩⟩ (by rfl) hB.tuple))), rfl⟩
  obtain ⟨_, h, rfl⟩ := h
  exact h
abbrev s_sure_gates : Stmt := topS 4
abbrev nN_sure_gates : List Str := ["gates", "tag", "door", "least", "gate"]
theorem sc_sure_gates : FnScope nN_sure_gates ["gates", "tag", "door"] (defScope s_sure_gates) := ⟨rfl, rfl, rfl, by decide +kernel, rfl, by decide +kernel, by decide +kernel⟩
def t_sure_gates (sp_misreads_to sp_misreads_past : ZC) : ZS :=
    (zSeq (zAsg (zOp qIx (zCallF 2 sp_misreads_to (zCons (zVar 0) (zCons (zVar 1) zNil))) (zVar 2)) (zgName 3))
    (zSeq (zIfS (zTb (zOp qLt (zVar 3) (zC (.int 0)))) (zRet (zTup zNil)) zNext)
    (zRet (zTupG (zRngI (zCons (zCall qLen (zCons (zVar 0) zNil)) zNil)) (zgName 4) (zTb (zOp (qEq true) (zOp qIx (zCallF 3 sp_misreads_past (zCons (zVar 0) (zCons (zVar 1) (zCons (zVar 4) zNil)))) (zVar 2)) (zVar 3))) (zVar 4) [4]))))
theorem b_sure_gates {P : Program} {w : World} {K : PySem.W.Frag} {mg : Str → Option Value} {base : Heap} {TB : List Addr} {k : Nat} {f : Addr} {sp_misreads_to sp_misreads_past : ZC} (hB : Bl mg) (c_misreads_to : Cal P w K mg base TB k "misreads_to" 2 sp_misreads_to) (c_misreads_past : Cal P w K mg base TB k "misreads_past" 3 sp_misreads_past) (cdv : Value) (A : Around) (outer : List Env) (s : Shared) (H : Hp) (E : XK)
    (hr : Room (k + 1) (A.deeper (envOfC "sure_gates" (defScope s_sure_gates) s.heap.objs.size f cdv))) (hcx : ZRoot TB (cxOf CX0 P w K mg base nN_sure_gates "sure_gates" (defScope s_sure_gates) f cdv A outer s H E).nox) : ZPSs TB (cxOf CX0 P w K mg base nN_sure_gates "sure_gates" (defScope s_sure_gates) f cdv A outer s H E).nox (defBody s_sure_gates) (t_sure_gates sp_misreads_to sp_misreads_past) := by
  have nd := sc_sure_gates.nd
  have n0 : (".0" : Str) ∉ nN_sure_gates := by decide
  have h : ∃ t, ZPSs TB (cxOf CX0 P w K mg base nN_sure_gates "sure_gates" (defScope s_sure_gates) f cdv A outer s H E).nox (defBody s_sure_gates) t ∧ t = t_sure_gates sp_misreads_to sp_misreads_past := ⟨_, (zs_cons (z_set (i := 3) nd rfl (Or.inr rfl) (z_ix zi_any (z_cal c_misreads_to (hr.mono (by omega)) rfl (zpa_cons (z_var 0) (zpa_cons (z_var 1) zpa_nil))) (z_var 2) (fun _ _ => rfl)))
    (zs_cons (z_ifS (z_tcmp (zo_lt hr.units0) (z_var 3) z_int (nomark _)) (zs_one (z_ret (z_tup zpa_nil))) zs_nil)
    (zs_one (z_ret (z_gTup (own := [("gate", 4)]) ⟨hcx.cx, hr, (zi_range1 (by rfl) hB.range (zpa_cons (z_callB zc_len (by rfl) hB.len (by decide +kernel) (zpa_cons (z_var 0) zpa_nil)) zpa_nil)), (blkOk_by (N := nN_sure_gates) (sc := defScope s_sure_gates) (by decide +kernel)), nd, n0, rfl, rfl, (fun _ => rfl)⟩ ⟨fun A1 s1 H1 cl1 C1 fp1 code1 hcx1 hr1 => ⟨(zgc_name (i := 4) nd rfl (Or.inl rfl) (by decide)), (zts_one (z_tcmp (zo_ne hr1.units) (z_ix zi_any (z_cal c_misreads_past (hr1.mono (by omega)) rfl (zpa_cons (z_var 0) (zpa_cons (z_var 1) (zpa_cons (z_var 4) zpa_nil)))) (z_var 2) (fun _ _ => rfl)) (z_var 3) (nomark _))), (z_var 4)⟩⟩ (by rfl) hB.tuple))))), rfl⟩
  obtain ⟨_, h, rfl⟩ := h
  exact h
abbrev s_misreads_past : Stmt := topS 5
abbrev nN_misreads_past : List Str := ["gates", "tag", "shut", "doors", "here", "gate", "sends", "read", "goal", "number"]
theorem sc_misreads_past : FnScope nN_misreads_past ["gates", "tag", "shut"] (defScope s_misreads_past) := ⟨rfl, rfl, rfl, by decide +kernel, rfl, by decide +kernel, by decide +kernel⟩
def t_misreads_past (sp_lesser_told : ZC) : ZS :=
    (zSeq (zAsg (zOp qMul (zLst (zCons (zUn qNeg (zC (.int 1))) zNil)) (zC (.int 10))) (zgName 3))
    (zSeq (zAsg (zOp qAdd (zLst (zCons (zC (.int 0)) zNil)) (zOp qMul (zLst (zCons (zUn qNeg (zC (.int 1))) zNil)) (zOp qSub (zCall qLen (zCons (zVar 0) zNil)) (zC (.int 1))))) (zgName 4))
    (zSeq (zFor (zEnumI (zCons (zVar 0) zNil)) (zgTup 2 (zgCons (zgName 5) (zgCons (zgName 6) zgNil))) (zSeq (zIfS (zOr (zTb (zOp (qEq false) (zVar 5) (zVar 2))) (zTb (zOp qLt (zOp qIx (zVar 4) (zVar 5)) (zC (.int 0))))) zCont zNext)
    (zFor (zEnumI (zCons (zVar 6) zNil)) (zgTup 2 (zgCons (zgName 7) (zgCons (zgName 8) zgNil))) (zSeq (zAsg (zOp qAdd (zOp qIx (zVar 4) (zVar 5)) (zIf (zTb (zOp (qEq false) (zVar 7) (zVar 1))) (zC (.int 0)) (zC (.int 1)))) (zgName 9))
    (zIfS (zTb (zOp qLt (zVar 8) (zC (.int 0)))) (zAsg (zCallF 2 sp_lesser_told (zCons (zOp qIx (zVar 3) (zOp qSub (zUn qNeg (zC (.int 1))) (zVar 8))) (zCons (zVar 9) zNil))) (zgSub (zVar 3) (zOp qSub (zUn qNeg (zC (.int 1))) (zVar 8)) qSetL)) (zAsg (zCallF 2 sp_lesser_told (zCons (zOp qIx (zVar 4) (zVar 8)) (zCons (zVar 9) zNil))) (zgSub (zVar 4) (zVar 8) qSetL)))))))
    (zRet (zCall qTup (zCons (zVar 3) zNil))))))
theorem b_misreads_past {P : Program} {w : World} {K : PySem.W.Frag} {mg : Str → Option Value} {base : Heap} {TB : List Addr} {k : Nat} {f : Addr} {sp_lesser_told : ZC} (hB : Bl mg) (c_lesser_told : Cal P w K mg base TB k "lesser_told" 2 sp_lesser_told) (cdv : Value) (A : Around) (outer : List Env) (s : Shared) (H : Hp) (E : XK)
    (hr : Room k (A.deeper (envOfC "misreads_past" (defScope s_misreads_past) s.heap.objs.size f cdv))) : ZPSs TB (cxOf CX0 P w K mg base nN_misreads_past "misreads_past" (defScope s_misreads_past) f cdv A outer s H E).nox (defBody s_misreads_past) (t_misreads_past sp_lesser_told) := by
  have nd := sc_misreads_past.nd
  have h : ∃ t, ZPSs TB (cxOf CX0 P w K mg base nN_misreads_past "misreads_past" (defScope s_misreads_past) f cdv A outer s H E).nox (defBody s_misreads_past) t ∧ t = t_misreads_past sp_lesser_told := ⟨_, (zs_cons (z_set (i := 3) nd rfl (Or.inl rfl) (z_op zo_mul (z_lst (zpa_cons (z_un zo_neg z_int) zpa_nil)) z_int))
    (zs_cons (z_set (i := 4) nd rfl (Or.inl rfl) (z_op zo_add (z_lst (zpa_cons z_int zpa_nil)) (z_op zo_mul (z_lst (zpa_cons (z_un zo_neg z_int) zpa_nil)) (z_op zo_sub (z_callB zc_len (by rfl) hB.len (by decide +kernel) (zpa_cons (z_var 0) zpa_nil)) z_int))))
    (zs_cons (z_for PassesOwn.never rfl (zi_enum (by rfl) hB.enumerate (zpa_cons (z_var 0) zpa_nil)) (zg_tup (n := 2) rfl (zgs_cons (zg_name (i := 5) nd rfl (Or.inl rfl)) (zgs_cons (zg_name (i := 6) nd rfl (Or.inl rfl)) zgs_nil))) (zs_cons (z_ifS (ZPW.zt (zw_or (z_tcmp (zo_eq hr.units) (z_var 5) (z_var 2) (nomark _)) (zw_or1 (z_tcmp (zo_lt hr.units0) (z_ix zi_any (z_var 4) (z_var 5) (fun _ _ => rfl)) z_int (nomark _))))) (zs_one z_continue) zs_nil)
    (zs_one (z_for PassesOwn.never rfl (zi_enum (by rfl) hB.enumerate (zpa_cons (z_var 6) zpa_nil)) (zg_tup (n := 2) rfl (zgs_cons (zg_name (i := 7) nd rfl (Or.inl rfl)) (zgs_cons (zg_name (i := 8) nd rfl (Or.inl rfl)) zgs_nil))) (zs_cons (z_set (i := 9) nd rfl (Or.inl rfl) (z_op zo_add (z_ix zi_any (z_var 4) (z_var 5) (fun _ _ => rfl)) (z_if (z_tcmp (zo_eq hr.units) (z_var 7) (z_var 1) (nomark _)) z_int z_int)))
    (zs_one (z_ifS (z_tcmp (zo_lt hr.units0) (z_var 8) z_int (nomark _)) (zs_one (z_asg (z_cal c_lesser_told hr rfl (zpa_cons (z_ix zi_any (z_var 3) (z_op zo_sub (z_un zo_neg z_int) (z_var 8)) (fun _ _ => rfl)) (zpa_cons (z_var 9) zpa_nil))) (zg_subL (z_var 3) (z_op zo_sub (z_un zo_neg z_int) (z_var 8))))) (zs_one (z_asg (z_cal c_lesser_told hr rfl (zpa_cons (z_ix zi_any (z_var 4) (z_var 8) (fun _ _ => rfl)) (zpa_cons (z_var 9) zpa_nil))) (zg_subL (z_var 4) (z_var 8)))))))))))
    (zs_one (z_ret (z_callTy zc_tup (by rfl) hB.tuple (by decide +kernel) (zpa_cons (z_var 3) zpa_nil))))))), rfl⟩
  obtain ⟨_, h, rfl⟩ := h
  exact h
abbrev s_lesser_told : Stmt := topS 6
abbrev nN_lesser_told : List Str := ["told", "number"]
theorem sc_lesser_told : FnScope nN_lesser_told ["told", "number"] (defScope s_lesser_told) := ⟨rfl, rfl, rfl, by decide +kernel, rfl, by decide +kernel, by decide +kernel⟩
def t_lesser_told : ZS :=
    (zRet (zIf (zTb (zOp qLt (zVar 0) (zC (.int 0)))) (zVar 1) (zCall qMin2 (zCons (zVar 0) (zCons (zVar 1) zNil)))))
theorem b_lesser_told {P : Program} {w : World} {K : PySem.W.Frag} {mg : Str → Option Value} {base : Heap} {TB : List Addr} {k : Nat} {f : Addr} (hB : Bl mg) (cdv : Value) (A : Around) (outer : List Env) (s : Shared) (H : Hp) (E : XK)
    (hr : Room k (A.deeper (envOfC "lesser_told" (defScope s_lesser_told) s.heap.objs.size f cdv))) : ZPSs TB (cxOf CX0 P w K mg base nN_lesser_told "lesser_told" (defScope s_lesser_told) f cdv A outer s H E).nox (defBody s_lesser_told) (t_lesser_told ) := by
  have nd := sc_lesser_told.nd
  have h : ∃ t, ZPSs TB (cxOf CX0 P w K mg base nN_lesser_told "lesser_told" (defScope s_lesser_told) f cdv A outer s H E).nox (defBody s_lesser_told) t ∧ t = t_lesser_told  := ⟨_, (zs_one (z_ret (z_if (z_tcmp (zo_lt hr.units0) (z_var 0) z_int (nomark _)) (z_var 1) (z_callB (zc_min2 rfl) (by rfl) hB.min (by decide +kernel) (zpa_cons (z_var 0) (zpa_cons (z_var 1) zpa_nil)))))), rfl⟩
  obtain ⟨_, h, rfl⟩ := h
  exact h
abbrev s__law_source : Stmt := topS 8
abbrev nN__law_source : List Str := ["script", "mixed", "cell"]
theorem sc__law_source : FnScope nN__law_source ["script"] (defScope s__law_source) := ⟨rfl, rfl, rfl, by decide +kernel, rfl, by decide +kernel, by decide +kernel⟩
def t__law_source : ZS :=
    (zSeq (zAsg (zC (.int 20011)) (zgName 1))
    (zSeq (zFor (zSeqI (zSl (zVar 0) zNoPart (zPart (zC (.int 63))))) (zgName 2) (zAsg (zOp qMod (zCall qInt (zCons (zOp qAdd (zOp qAdd (zOp qMul (zVar 1) (zC (.int 137))) (zOp qMod (zCall qInt (zCons (zVar 2) zNil)) (zC (.int 1000003)))) (zC (.int 19))) zNil)) (zC (.int 2147483629))) (zgName 1)))
    (zRet (zLst (zCons (zCall qList (zCons (zSl (zVar 0) zNoPart (zPart (zC (.int 63)))) zNil)) (zCons (zC (.int 0)) (zCons (zC (.int 0)) (zCons (zVar 1) zNil))))))))
theorem b__law_source {P : Program} {w : World} {K : PySem.W.Frag} {mg : Str → Option Value} {base : Heap} {TB : List Addr} {k : Nat} {f : Addr} (hB : Bl mg) (cdv : Value) (A : Around) (outer : List Env) (s : Shared) (H : Hp) (E : XK)
    (hr : Room k (A.deeper (envOfC "_law_source" (defScope s__law_source) s.heap.objs.size f cdv))) : ZPSs TB (cxOf CX0 P w K mg base nN__law_source "_law_source" (defScope s__law_source) f cdv A outer s H E).nox (defBody s__law_source) (t__law_source ) := by
  have nd := sc__law_source.nd
  have h : ∃ t, ZPSs TB (cxOf CX0 P w K mg base nN__law_source "_law_source" (defScope s__law_source) f cdv A outer s H E).nox (defBody s__law_source) t ∧ t = t__law_source  := ⟨_, (zs_cons (z_set (i := 1) nd rfl (Or.inl rfl) z_int)
    (zs_cons (z_for PassesOwn.never rfl (zi_seq (z_sl (z_var 0) zpo_none (zpo_some z_int))) (zg_name (i := 2) nd rfl (Or.inl rfl)) (zs_one (z_set (i := 1) nd rfl (Or.inl rfl) (z_op zo_mod (z_callTy zc_int (by rfl) hB.int (by decide +kernel) (zpa_cons (z_op zo_add (z_op zo_add (z_op zo_mul (z_var 1) z_int) (z_op zo_mod (z_callTy zc_int (by rfl) hB.int (by decide +kernel) (zpa_cons (z_var 2) zpa_nil)) z_int)) z_int) zpa_nil)) z_int))))
    (zs_one (z_ret (z_lst (zpa_cons (z_callTy zc_list (by rfl) hB.list (by decide +kernel) (zpa_cons (z_sl (z_var 0) zpo_none (zpo_some z_int)) zpa_nil)) (zpa_cons z_int (zpa_cons z_int (zpa_cons (z_var 1) zpa_nil))))))))), rfl⟩
  obtain ⟨_, h, rfl⟩ := h
  exact h
abbrev s__law_pick : Stmt := topS 9
abbrev nN__law_pick : List Str := ["source", "many", "cell", "once", "digit"]
theorem sc__law_pick : FnScope nN__law_pick ["source", "many"] (defScope s__law_pick) := ⟨rfl, rfl, rfl, by decide +kernel, rfl, by decide +kernel, by decide +kernel⟩
def t__law_pick : ZS :=
    (zSeq (zIfS (zAnd (zTb (zOp (qEq false) (zOp qIx (zVar 0) (zC (.int 1))) (zC (.int 0)))) (zTb (zOp qGt (zCall qLen (zCons (zOp qIx (zVar 0) (zC (.int 0))) zNil)) (zC (.int 0))))) (zSeq (zAsg (zCall qInt (zCons (zOp qIx (zOp qIx (zVar 0) (zC (.int 0))) (zC (.int 0))) zNil)) (zgName 2))
    (zSeq (zAsg (zSl (zOp qIx (zVar 0) (zC (.int 0))) (zPart (zC (.int 1))) zNoPart) (zgSub (zVar 0) (zC (.int 0)) qSetL))
    (zSeq (zIfS (zTb (zOp qLt (zCall qAbs (zCons (zVar 2) zNil)) (zOp qPow (zC (.int 10)) (zC (.int 18))))) (zSeq (zAsg (zOp qMod (zCall qInt (zCons (zOp qAdd (zOp qAdd (zOp qMul (zVar 2) (zC (.int 48271))) (zOp qMul (zCall qLen (zCons (zOp qIx (zVar 0) (zC (.int 0))) zNil)) (zC (.int 69621)))) (zC (.int 13))) zNil)) (zC (.int 2147483647))) (zgName 3))
    (zRet (zOp qMod (zCall qInt (zCons (zOp qDiv (zOp qMod (zCall qInt (zCons (zOp qAdd (zOp qMul (zVar 3) (zVar 3)) (zC (.int 3))) zNil)) (zC (.int 2147483629))) (zC (.int 16))) zNil)) (zVar 1)))) zNext)
    (zSeq (zAsg (zCall qAbs (zCons (zVar 2) zNil)) (zgSub (zVar 0) (zC (.int 1)) qSetL))
    (zAsg (zC (.int 60)) (zgSub (zVar 0) (zC (.int 2)) qSetL)))))) zNext)
    (zSeq (zIfS (zTb (zOp qGt (zOp qIx (zVar 0) (zC (.int 1))) (zC (.int 0)))) (zSeq (zAsg (zOp qMod (zCall qInt (zCons (zOp qIx (zVar 0) (zC (.int 1))) zNil)) (zVar 1)) (zgName 4))
    (zSeq (zAsg (zOp qSub (zOp qIx (zVar 0) (zC (.int 2))) (zC (.int 1))) (zgSub (zVar 0) (zC (.int 2)) qSetL))
    (zSeq (zAsg (zOp qMul (zOp qDiv (zOp qIx (zVar 0) (zC (.int 1))) (zVar 1)) (zCall qInt (zCons (zOp qGt (zOp qIx (zVar 0) (zC (.int 2))) (zC (.int 0))) zNil))) (zgSub (zVar 0) (zC (.int 1)) qSetL))
    (zRet (zVar 4))))) zNext)
    (zSeq (zAsg (zOp qMod (zCall qInt (zCons (zOp qAdd (zOp qMul (zOp qIx (zVar 0) (zC (.int 3))) (zC (.int 48271))) (zC (.int 12841))) zNil)) (zC (.int 2147483647))) (zgSub (zVar 0) (zC (.int 3)) qSetL))
    (zRet (zOp qMod (zCall qInt (zCons (zOp qDiv (zOp qIx (zVar 0) (zC (.int 3))) (zC (.int 64))) zNil)) (zVar 1))))))
theorem b__law_pick {P : Program} {w : World} {K : PySem.W.Frag} {mg : Str → Option Value} {base : Heap} {TB : List Addr} {k : Nat} {f : Addr} (hB : Bl mg) (cdv : Value) (A : Around) (outer : List Env) (s : Shared) (H : Hp) (E : XK)
    (hr : Room k (A.deeper (envOfC "_law_pick" (defScope s__law_pick) s.heap.objs.size f cdv))) : ZPSs TB (cxOf CX0 P w K mg base nN__law_pick "_law_pick" (defScope s__law_pick) f cdv A outer s H E).nox (defBody s__law_pick) (t__law_pick ) := by
  have nd := sc__law_pick.nd
  have h : ∃ t, ZPSs TB (cxOf CX0 P w K mg base nN__law_pick "_law_pick" (defScope s__law_pick) f cdv A outer s H E).nox (defBody s__law_pick) t ∧ t = t__law_pick  := ⟨_, (zs_cons (z_ifS (ZPW.zt (zw_and (z_tcmp (zo_eq hr.units) (z_ix zi_any (z_var 0) z_int (fun _ _ => rfl)) z_int (nomark _)) (zw_and1 (z_tcmp zo_gt (z_callB zc_len (by rfl) hB.len (by decide +kernel) (zpa_cons (z_ix zi_any (z_var 0) z_int (fun _ _ => rfl)) zpa_nil)) z_int (nomark _))))) (zs_cons (z_set (i := 2) nd rfl (Or.inl rfl) (z_callTy zc_int (by rfl) hB.int (by decide +kernel) (zpa_cons (z_ix zi_any (z_ix zi_any (z_var 0) z_int (fun _ _ => rfl)) z_int (fun _ _ => rfl)) zpa_nil)))
    (zs_cons (z_asg (z_sl (z_ix zi_any (z_var 0) z_int (fun _ _ => rfl)) (zpo_some z_int) zpo_none) (zg_subL (z_var 0) z_int))
    (zs_cons (z_ifS (z_tcmp (zo_lt hr.units0) (z_callB zc_abs (by rfl) hB.abs (by decide +kernel) (zpa_cons (z_var 2) zpa_nil)) (z_op zo_pow z_int z_int) (nomark _)) (zs_cons (z_set (i := 3) nd rfl (Or.inl rfl) (z_op zo_mod (z_callTy zc_int (by rfl) hB.int (by decide +kernel) (zpa_cons (z_op zo_add (z_op zo_add (z_op zo_mul (z_var 2) z_int) (z_op zo_mul (z_callB zc_len (by rfl) hB.len (by decide +kernel) (zpa_cons (z_ix zi_any (z_var 0) z_int (fun _ _ => rfl)) zpa_nil)) z_int)) z_int) zpa_nil)) z_int))
    (zs_one (z_ret (z_op zo_mod (z_callTy zc_int (by rfl) hB.int (by decide +kernel) (zpa_cons (z_op zo_div (z_op zo_mod (z_callTy zc_int (by rfl) hB.int (by decide +kernel) (zpa_cons (z_op zo_add (z_op zo_mul (z_var 3) (z_var 3)) z_int) zpa_nil)) z_int) z_int) zpa_nil)) (z_var 1))))) zs_nil)
    (zs_cons (z_asg (z_callB zc_abs (by rfl) hB.abs (by decide +kernel) (zpa_cons (z_var 2) zpa_nil)) (zg_subL (z_var 0) z_int))
    (zs_one (z_asg z_int (zg_subL (z_var 0) z_int))))))) zs_nil)
    (zs_cons (z_ifS (z_tcmp zo_gt (z_ix zi_any (z_var 0) z_int (fun _ _ => rfl)) z_int (nomark _)) (zs_cons (z_set (i := 4) nd rfl (Or.inl rfl) (z_op zo_mod (z_callTy zc_int (by rfl) hB.int (by decide +kernel) (zpa_cons (z_ix zi_any (z_var 0) z_int (fun _ _ => rfl)) zpa_nil)) (z_var 1)))
    (zs_cons (z_asg (z_op zo_sub (z_ix zi_any (z_var 0) z_int (fun _ _ => rfl)) z_int) (zg_subL (z_var 0) z_int))
    (zs_cons (z_asg (z_op zo_mul (z_op zo_div (z_ix zi_any (z_var 0) z_int (fun _ _ => rfl)) (z_var 1)) (z_callTy zc_int (by rfl) hB.int (by decide +kernel) (zpa_cons (z_cmp zo_gt (z_ix zi_any (z_var 0) z_int (fun _ _ => rfl)) z_int (nomark _)) zpa_nil))) (zg_subL (z_var 0) z_int))
    (zs_one (z_ret (z_var 4)))))) zs_nil)
    (zs_cons (z_asg (z_op zo_mod (z_callTy zc_int (by rfl) hB.int (by decide +kernel) (zpa_cons (z_op zo_add (z_op zo_mul (z_ix zi_any (z_var 0) z_int (fun _ _ => rfl)) z_int) z_int) zpa_nil)) z_int) (zg_subL (z_var 0) z_int))
    (zs_one (z_ret (z_op zo_mod (z_callTy zc_int (by rfl) hB.int (by decide +kernel) (zpa_cons (z_op zo_div (z_ix zi_any (z_var 0) z_int (fun _ _ => rfl)) z_int) zpa_nil)) (z_var 1))))))), rfl⟩
  obtain ⟨_, h, rfl⟩ := h
  exact h
abbrev s__law_of : Stmt := topS 10
abbrev nN__law_of : List Str := ["source", "row"]
theorem sc__law_of : FnScope nN__law_of ["source", "row"] (defScope s__law_of) := ⟨rfl, rfl, rfl, by decide +kernel, rfl, by decide +kernel, by decide +kernel⟩
def t__law_of (sp__law_pick : ZC) : ZS :=
    (zRet (zOp qIx (zVar 1) (zCallF 2 sp__law_pick (zCons (zVar 0) (zCons (zCall qLen (zCons (zVar 1) zNil)) zNil)))))
theorem b__law_of {P : Program} {w : World} {K : PySem.W.Frag} {mg : Str → Option Value} {base : Heap} {TB : List Addr} {k : Nat} {f : Addr} {sp__law_pick : ZC} (hB : Bl mg) (c__law_pick : Cal P w K mg base TB k "_law_pick" 2 sp__law_pick) (cdv : Value) (A : Around) (outer : List Env) (s : Shared) (H : Hp) (E : XK)
    (hr : Room k (A.deeper (envOfC "_law_of" (defScope s__law_of) s.heap.objs.size f cdv))) : ZPSs TB (cxOf CX0 P w K mg base nN__law_of "_law_of" (defScope s__law_of) f cdv A outer s H E).nox (defBody s__law_of) (t__law_of sp__law_pick) := by
  have nd := sc__law_of.nd
  have h : ∃ t, ZPSs TB (cxOf CX0 P w K mg base nN__law_of "_law_of" (defScope s__law_of) f cdv A outer s H E).nox (defBody s__law_of) t ∧ t = t__law_of sp__law_pick := ⟨_, (zs_one (z_ret (z_ix zi_any (z_var 1) (z_cal c__law_pick hr rfl (zpa_cons (z_var 0) (zpa_cons (z_callB zc_len (by rfl) hB.len (by decide +kernel) (zpa_cons (z_var 1) zpa_nil)) zpa_nil))) (fun _ _ => rfl)))), rfl⟩
  obtain ⟨_, h, rfl⟩ := h
  exact h
abbrev s__law_stirred : Stmt := topS 11
abbrev nN__law_stirred : List Str := ["source", "row", "rest", "k"]
theorem sc__law_stirred : FnScope nN__law_stirred ["source", "row"] (defScope s__law_stirred) := ⟨rfl, rfl, rfl, by decide +kernel, rfl, by decide +kernel, by decide +kernel⟩
def t__law_stirred (sp__law_pick : ZC) : ZS :=
    (zSeq (zAsg (zCall qList (zCons (zVar 1) zNil)) (zgName 2))
    (zRet (zLc (zRngI (zCons (zCall qLen (zCons (zVar 1) zNil)) zNil)) (zgName 3) (fun _ S K => K true S) (zMl qPop (zVar 2) (zCons (zCallF 2 sp__law_pick (zCons (zVar 0) (zCons (zCall qLen (zCons (zVar 2) zNil)) zNil))) zNil)) [3])))
theorem b__law_stirred {P : Program} {w : World} {K : PySem.W.Frag} {mg : Str → Option Value} {base : Heap} {TB : List Addr} {k : Nat} {f : Addr} {sp__law_pick : ZC} (hB : Bl mg) (c__law_pick : Cal P w K mg base TB k "_law_pick" 2 sp__law_pick) (cdv : Value) (A : Around) (outer : List Env) (s : Shared) (H : Hp) (E : XK)
    (hr : Room k (A.deeper (envOfC "_law_stirred" (defScope s__law_stirred) s.heap.objs.size f cdv))) : ZPSs TB (cxOf CX0 P w K mg base nN__law_stirred "_law_stirred" (defScope s__law_stirred) f cdv A outer s H E).nox (defBody s__law_stirred) (t__law_stirred sp__law_pick) := by
  have nd := sc__law_stirred.nd
  have h : ∃ t, ZPSs TB (cxOf CX0 P w K mg base nN__law_stirred "_law_stirred" (defScope s__law_stirred) f cdv A outer s H E).nox (defBody s__law_stirred) t ∧ t = t__law_stirred sp__law_pick := ⟨_, (zs_cons (z_set (i := 2) nd rfl (Or.inr rfl) (z_callTy zc_list (by rfl) hB.list (by decide +kernel) (zpa_cons (z_var 1) zpa_nil)))
    (zs_one (z_ret (z_lc (own := [("k", 3)]) rfl nd (zi_range1 (by rfl) hB.range (zpa_cons (z_callB zc_len (by rfl) hB.len (by decide +kernel) (zpa_cons (z_var 1) zpa_nil)) zpa_nil)) (blkOk_by (N := nN__law_stirred) (sc := defScope s__law_stirred) (by decide +kernel)) (fun _ _ _ _ _ => (zgc_name (i := 3) nd rfl (Or.inl rfl) (by decide))) (fun _ _ _ _ _ => zts_nil) (fun _ _ _ _ _ => (z_ml PySem.F.slot_list_pop PySem.F.type_list_pop zm_pop (z_var 2) (zpa_cons (z_cal c__law_pick hr rfl (zpa_cons (z_var 0) (zpa_cons (z_callB zc_len (by rfl) hB.len (by decide +kernel) (zpa_cons (z_var 2) zpa_nil)) zpa_nil))) zpa_nil))))))), rfl⟩
  obtain ⟨_, h, rfl⟩ := h
  exact h
abbrev s__law_same : Stmt := topS 12
abbrev nN__law_same : List Str := ["told", "due", "k"]
theorem sc__law_same : FnScope nN__law_same ["told", "due"] (defScope s__law_same) := ⟨rfl, rfl, rfl, by decide +kernel, rfl, by decide +kernel, by decide +kernel⟩
def t__law_same (sp__law_same : ZC) : ZS :=
    (zSeq (zIfS (zTru (zCall qIsi (zCons (zVar 1) (zCons (zC (.ty "tuple")) zNil)))) (zSeq (zIfS (zOr (zNot (zTru (zCall qIsi (zCons (zVar 0) (zCons (zC (.ty "tuple")) zNil))))) (zTb (zOp (qEq true) (zCall qLen (zCons (zVar 0) zNil)) (zCall qLen (zCons (zVar 1) zNil))))) (zRet (zC (.bl false))) zNext)
    (zSeq (zFor (zRngI (zCons (zCall qLen (zCons (zVar 1) zNil)) zNil)) (zgName 2) (zIfS (zNot (zTru (zCallF 2 sp__law_same (zCons (zOp qIx (zVar 0) (zVar 2)) (zCons (zOp qIx (zVar 1) (zVar 2)) zNil))))) (zRet (zC (.bl false))) zNext))
    (zRet (zC (.bl true))))) zNext)
    (zSeq (zIfS (zTb (zOp (qIsN false) (zVar 1) (zC .non))) (zRet (zOp (qIsN false) (zVar 0) (zC .non))) zNext)
    (zSeq (zIfS (zTru (zCall qIsi (zCons (zVar 1) (zCons (zC (.ty "bool")) zNil)))) (zRet (zAndV (zCall qIsi (zCons (zVar 0) (zCons (zC (.ty "bool")) zNil))) (zOp (qEq false) (zVar 0) (zVar 1)))) zNext)
    (zSeq (zIfS (zTru (zCall qIsi (zCons (zVar 1) (zCons (zC (.ty "int")) zNil)))) (zRet (zAndV (zCall qIsi (zCons (zVar 0) (zCons (zC (.ty "int")) zNil))) (zAndV (zNotV (zCall qIsi (zCons (zVar 0) (zCons (zC (.ty "bool")) zNil)))) (zOp (qEq false) (zVar 0) (zVar 1))))) zNext)
    (zRet (zAndV (zCall qIsi (zCons (zVar 0) (zCons (zC (.ty "str")) zNil))) (zOp (qEq false) (zVar 0) (zVar 1))))))))
theorem b__law_same {P : Program} {w : World} {K : PySem.W.Frag} {mg : Str → Option Value} {base : Heap} {TB : List Addr} {k : Nat} {f : Addr} {sp__law_same : ZC} (hB : Bl mg) (c__law_same : Cal P w K mg base TB k "_law_same" 2 sp__law_same) (cdv : Value) (A : Around) (outer : List Env) (s : Shared) (H : Hp) (E : XK)
    (hr : Room k (A.deeper (envOfC "_law_same" (defScope s__law_same) s.heap.objs.size f cdv))) : ZPSs TB (cxOf CX0 P w K mg base nN__law_same "_law_same" (defScope s__law_same) f cdv A outer s H E).nox (defBody s__law_same) (t__law_same sp__law_same) := by
  have nd := sc__law_same.nd
  have h : ∃ t, ZPSs TB (cxOf CX0 P w K mg base nN__law_same "_law_same" (defScope s__law_same) f cdv A outer s H E).nox (defBody s__law_same) t ∧ t = t__law_same sp__law_same := ⟨_, (zs_cons (z_ifS (z_truth (z_callB zc_isi (by rfl) hB.isinstance (by decide +kernel) (zpa_cons (z_var 1) (zpa_cons (z_ty (n := "tuple") (by rfl) hB.tuple (by decide +kernel)) zpa_nil)))) (zs_cons (z_ifS (ZPW.zt (zw_or (z_tnot (z_truth (z_callB zc_isi (by rfl) hB.isinstance (by decide +kernel) (zpa_cons (z_var 0) (zpa_cons (z_ty (n := "tuple") (by rfl) hB.tuple (by decide +kernel)) zpa_nil))))) (zw_or1 (z_tcmp (zo_ne hr.units) (z_callB zc_len (by rfl) hB.len (by decide +kernel) (zpa_cons (z_var 0) zpa_nil)) (z_callB zc_len (by rfl) hB.len (by decide +kernel) (zpa_cons (z_var 1) zpa_nil)) (nomark _))))) (zs_one (z_ret z_bl)) zs_nil)
    (zs_cons (z_for PassesOwn.never rfl (zi_range1 (by rfl) hB.range (zpa_cons (z_callB zc_len (by rfl) hB.len (by decide +kernel) (zpa_cons (z_var 1) zpa_nil)) zpa_nil)) (zg_name (i := 2) nd rfl (Or.inl rfl)) (zs_one (z_ifS (z_tnot (z_truth (z_cal c__law_same hr rfl (zpa_cons (z_ix zi_any (z_var 0) (z_var 2) (fun _ _ => rfl)) (zpa_cons (z_ix zi_any (z_var 1) (z_var 2) (fun _ _ => rfl)) zpa_nil))))) (zs_one (z_ret z_bl)) zs_nil)))
    (zs_one (z_ret z_bl)))) zs_nil)
    (zs_cons (z_ifS (z_tcmp zo_is (z_var 1) z_non (nomark _)) (zs_one (z_ret (z_cmp zo_is (z_var 0) z_non (nomark _)))) zs_nil)
    (zs_cons (z_ifS (z_truth (z_callB zc_isi (by rfl) hB.isinstance (by decide +kernel) (zpa_cons (z_var 1) (zpa_cons (z_ty (n := "bool") (by rfl) hB.bool (by decide +kernel)) zpa_nil)))) (zs_one (z_ret (z_and (z_callB zc_isi (by rfl) hB.isinstance (by decide +kernel) (zpa_cons (z_var 0) (zpa_cons (z_ty (n := "bool") (by rfl) hB.bool (by decide +kernel)) zpa_nil))) (z_one (z_cmp (zo_eq hr.units) (z_var 0) (z_var 1) (nomark _)))))) zs_nil)
    (zs_cons (z_ifS (z_truth (z_callB zc_isi (by rfl) hB.isinstance (by decide +kernel) (zpa_cons (z_var 1) (zpa_cons (z_ty (n := "int") (by rfl) hB.int (by decide +kernel)) zpa_nil)))) (zs_one (z_ret (z_and (z_callB zc_isi (by rfl) hB.isinstance (by decide +kernel) (zpa_cons (z_var 0) (zpa_cons (z_ty (n := "int") (by rfl) hB.int (by decide +kernel)) zpa_nil))) (z_and (z_not (z_callB zc_isi (by rfl) hB.isinstance (by decide +kernel) (zpa_cons (z_var 0) (zpa_cons (z_ty (n := "bool") (by rfl) hB.bool (by decide +kernel)) zpa_nil)))) (z_one (z_cmp (zo_eq hr.units) (z_var 0) (z_var 1) (nomark _))))))) zs_nil)
    (zs_one (z_ret (z_and (z_callB zc_isi (by rfl) hB.isinstance (by decide +kernel) (zpa_cons (z_var 0) (zpa_cons (z_ty (n := "str") (by rfl) hB.str (by decide +kernel)) zpa_nil))) (z_one (z_cmp (zo_eq hr.units) (z_var 0) (z_var 1) (nomark _)))))))))), rfl⟩
  obtain ⟨_, h, rfl⟩ := h
  exact h
abbrev s__law_belt : Stmt := topS 13
abbrev nN__law_belt : List Str := ["source", "many", "tags", "doors", "gates", "k", "some", "tag", "later"]
theorem sc__law_belt : FnScope nN__law_belt ["source", "many", "tags", "doors"] (defScope s__law_belt) := ⟨rfl, rfl, rfl, by decide +kernel, rfl, by decide +kernel, by decide +kernel⟩
def t__law_belt (sp__law_pick sp__law_of : ZC) : ZS :=
    (zSeq (zAsg (zLst zNil) (zgName 4))
    (zSeq (zFor (zRngI (zCons (zVar 1) zNil)) (zgName 5) (zSeq (zAsg (zLst zNil) (zgName 6))
    (zSeq (zFor (zRngI (zCons (zVar 2) zNil)) (zgName 7) (zSeq (zAsg (zIf (zTb (zOp qLt (zOp qAdd (zVar 5) (zC (.int 1))) (zVar 1))) (zOp qAdd (zOp qAdd (zVar 5) (zC (.int 1))) (zCallF 2 sp__law_pick (zCons (zVar 0) (zCons (zOp qSub (zOp qSub (zVar 1) (zVar 5)) (zC (.int 1))) zNil)))) (zC (.int 0))) (zgName 8))
    (zDrop (zMl qAppend (zVar 6) (zCons (zIf (zAnd (zTb (zOp qGt (zVar 8) (zC (.int 0)))) (zTb (zOp qGt (zCallF 2 sp__law_pick (zCons (zVar 0) (zCons (zC (.int 3)) zNil))) (zC (.int 0))))) (zVar 8) (zOp qSub (zUn qNeg (zC (.int 1))) (zCallF 2 sp__law_of (zCons (zVar 0) (zCons (zVar 3) zNil))))) zNil)))))
    (zDrop (zMl qAppend (zVar 4) (zCons (zCall qTup (zCons (zVar 6) zNil)) zNil))))))
    (zRet (zCall qTup (zCons (zVar 4) zNil)))))
theorem b__law_belt {P : Program} {w : World} {K : PySem.W.Frag} {mg : Str → Option Value} {base : Heap} {TB : List Addr} {k : Nat} {f : Addr} {sp__law_pick sp__law_of : ZC} (hB : Bl mg) (c__law_pick : Cal P w K mg base TB k "_law_pick" 2 sp__law_pick) (c__law_of : Cal P w K mg base TB k "_law_of" 2 sp__law_of) (cdv : Value) (A : Around) (outer : List Env) (s : Shared) (H : Hp) (E : XK)
    (hr : Room k (A.deeper (envOfC "_law_belt" (defScope s__law_belt) s.heap.objs.size f cdv))) : ZPSs TB (cxOf CX0 P w K mg base nN__law_belt "_law_belt" (defScope s__law_belt) f cdv A outer s H E).nox (defBody s__law_belt) (t__law_belt sp__law_pick sp__law_of) := by
  have nd := sc__law_belt.nd
  have h : ∃ t, ZPSs TB (cxOf CX0 P w K mg base nN__law_belt "_law_belt" (defScope s__law_belt) f cdv A outer s H E).nox (defBody s__law_belt) t ∧ t = t__law_belt sp__law_pick sp__law_of := ⟨_, (zs_cons (z_set (i := 4) nd rfl (Or.inl rfl) (z_lst zpa_nil))
    (zs_cons (z_for PassesOwn.never rfl (zi_range1 (by rfl) hB.range (zpa_cons (z_var 1) zpa_nil)) (zg_name (i := 5) nd rfl (Or.inl rfl)) (zs_cons (z_set (i := 6) nd rfl (Or.inl rfl) (z_lst zpa_nil))
    (zs_cons (z_for PassesOwn.never rfl (zi_range1 (by rfl) hB.range (zpa_cons (z_var 2) zpa_nil)) (zg_name (i := 7) nd rfl (Or.inl rfl)) (zs_cons (z_set (i := 8) nd rfl (Or.inl rfl) (z_if (z_tcmp (zo_lt hr.units0) (z_op zo_add (z_var 5) z_int) (z_var 1) (nomark _)) (z_op zo_add (z_op zo_add (z_var 5) z_int) (z_cal c__law_pick hr rfl (zpa_cons (z_var 0) (zpa_cons (z_op zo_sub (z_op zo_sub (z_var 1) (z_var 5)) z_int) zpa_nil)))) z_int))
    (zs_one (z_expr (z_ml PySem.F.slot_list_append PySem.F.type_list_append zm_append (z_var 6) (zpa_cons (z_if (ZPW.zt (zw_and (z_tcmp zo_gt (z_var 8) z_int (nomark _)) (zw_and1 (z_tcmp zo_gt (z_cal c__law_pick hr rfl (zpa_cons (z_var 0) (zpa_cons z_int zpa_nil))) z_int (nomark _))))) (z_var 8) (z_op zo_sub (z_un zo_neg z_int) (z_cal c__law_of hr rfl (zpa_cons (z_var 0) (zpa_cons (z_var 3) zpa_nil))))) zpa_nil))))))
    (zs_one (z_expr (z_ml PySem.F.slot_list_append PySem.F.type_list_append zm_append (z_var 4) (zpa_cons (z_callTy zc_tup (by rfl) hB.tuple (by decide +kernel) (zpa_cons (z_var 6) zpa_nil)) zpa_nil)))))))
    (zs_one (z_ret (z_callTy zc_tup (by rfl) hB.tuple (by decide +kernel) (zpa_cons (z_var 4) zpa_nil)))))), rfl⟩
  obtain ⟨_, h, rfl⟩ := h
  exact h
abbrev s__law_misreads : Stmt := topS 14
abbrev nN__law_misreads : List Str := ["gates", "tag", "gone", "at", "doors", "k", "read", "cost", "to", "door"]
theorem sc__law_misreads : FnScope nN__law_misreads ["gates", "tag", "gone"] (defScope s__law_misreads) := ⟨rfl, rfl, rfl, by decide +kernel, rfl, by decide +kernel, by decide +kernel⟩
def t__law_misreads : ZS :=
    (zSeq (zPar 3 4 (zCons (zOp qMul (zLst (zCons (zUn qNeg (zC (.int 1))) zNil)) (zCall qLen (zCons (zVar 0) zNil))) (zCons (zOp qMul (zLst (zCons (zUn qNeg (zC (.int 1))) zNil)) (zC (.int 10))) zNil)))
    (zSeq (zAsg (zIf (zTb (zOp (qEq true) (zVar 2) (zC (.int 0)))) (zC (.int 0)) (zUn qNeg (zC (.int 1)))) (zgSub (zVar 3) (zC (.int 0)) qSetL))
    (zSeq (zFor (zRngI (zCons (zCall qLen (zCons (zVar 0) zNil)) zNil)) (zgName 5) (zIfS (zAnd (zTb (zOp qGe (zOp qIx (zVar 3) (zVar 5)) (zC (.int 0)))) (zTb (zOp (qEq true) (zVar 5) (zVar 2)))) (zFor (zRngI (zCons (zCall qLen (zCons (zOp qIx (zVar 0) (zVar 5)) zNil)) zNil)) (zgName 6) (zSeq (zPar 7 8 (zCons (zOp qAdd (zOp qIx (zVar 3) (zVar 5)) (zCall qInt (zCons (zOp (qEq true) (zVar 6) (zVar 1)) zNil))) (zCons (zOp qIx (zOp qIx (zVar 0) (zVar 5)) (zVar 6)) zNil)))
    (zIfS (zTb (zOp qLt (zVar 8) (zC (.int 0)))) (zSeq (zAsg (zOp qSub (zUn qNeg (zC (.int 1))) (zVar 8)) (zgName 9))
    (zAsg (zIf (zTb (zOp qLt (zOp qIx (zVar 4) (zVar 9)) (zC (.int 0)))) (zVar 7) (zCall qMin2 (zCons (zOp qIx (zVar 4) (zVar 9)) (zCons (zVar 7) zNil)))) (zgSub (zVar 4) (zVar 9) qSetL))) (zAsg (zIf (zTb (zOp qLt (zOp qIx (zVar 3) (zVar 8)) (zC (.int 0)))) (zVar 7) (zCall qMin2 (zCons (zOp qIx (zVar 3) (zVar 8)) (zCons (zVar 7) zNil)))) (zgSub (zVar 3) (zVar 8) qSetL))))) zNext))
    (zRet (zTup (zCons (zVar 3) (zCons (zVar 4) zNil)))))))
theorem b__law_misreads {P : Program} {w : World} {K : PySem.W.Frag} {mg : Str → Option Value} {base : Heap} {TB : List Addr} {k : Nat} {f : Addr} (hB : Bl mg) (cdv : Value) (A : Around) (outer : List Env) (s : Shared) (H : Hp) (E : XK)
    (hr : Room k (A.deeper (envOfC "_law_misreads" (defScope s__law_misreads) s.heap.objs.size f cdv))) : ZPSs TB (cxOf CX0 P w K mg base nN__law_misreads "_law_misreads" (defScope s__law_misreads) f cdv A outer s H E).nox (defBody s__law_misreads) (t__law_misreads ) := by
  have nd := sc__law_misreads.nd
  have h : ∃ t, ZPSs TB (cxOf CX0 P w K mg base nN__law_misreads "_law_misreads" (defScope s__law_misreads) f cdv A outer s H E).nox (defBody s__law_misreads) t ∧ t = t__law_misreads  := ⟨_, (zs_cons (z_par (i := 3) (j := 4) rfl nd rfl rfl (by decide) rfl rfl (zpa_cons (z_op zo_mul (z_lst (zpa_cons (z_un zo_neg z_int) zpa_nil)) (z_callB zc_len (by rfl) hB.len (by decide +kernel) (zpa_cons (z_var 0) zpa_nil))) (zpa_cons (z_op zo_mul (z_lst (zpa_cons (z_un zo_neg z_int) zpa_nil)) z_int) zpa_nil)) (by rfl))
    (zs_cons (z_asg (z_if (z_tcmp (zo_ne hr.units) (z_var 2) z_int (nomark _)) z_int (z_un zo_neg z_int)) (zg_subL (z_var 3) z_int))
    (zs_cons (z_for PassesOwn.never rfl (zi_range1 (by rfl) hB.range (zpa_cons (z_callB zc_len (by rfl) hB.len (by decide +kernel) (zpa_cons (z_var 0) zpa_nil)) zpa_nil)) (zg_name (i := 5) nd rfl (Or.inl rfl)) (zs_one (z_ifS (ZPW.zt (zw_and (z_tcmp zo_ge (z_ix zi_any (z_var 3) (z_var 5) (fun _ _ => rfl)) z_int (nomark _)) (zw_and1 (z_tcmp (zo_ne hr.units) (z_var 5) (z_var 2) (nomark _))))) (zs_one (z_for PassesOwn.never rfl (zi_range1 (by rfl) hB.range (zpa_cons (z_callB zc_len (by rfl) hB.len (by decide +kernel) (zpa_cons (z_ix zi_any (z_var 0) (z_var 5) (fun _ _ => rfl)) zpa_nil)) zpa_nil)) (zg_name (i := 6) nd rfl (Or.inl rfl)) (zs_cons (z_par (i := 7) (j := 8) rfl nd rfl rfl (by decide) rfl rfl (zpa_cons (z_op zo_add (z_ix zi_any (z_var 3) (z_var 5) (fun _ _ => rfl)) (z_callTy zc_int (by rfl) hB.int (by decide +kernel) (zpa_cons (z_cmp (zo_ne hr.units) (z_var 6) (z_var 1) (nomark _)) zpa_nil))) (zpa_cons (z_ix zi_any (z_ix zi_any (z_var 0) (z_var 5) (fun _ _ => rfl)) (z_var 6) (fun _ _ => rfl)) zpa_nil)) (by rfl))
    (zs_one (z_ifS (z_tcmp (zo_lt hr.units0) (z_var 8) z_int (nomark _)) (zs_cons (z_set (i := 9) nd rfl (Or.inl rfl) (z_op zo_sub (z_un zo_neg z_int) (z_var 8)))
    (zs_one (z_asg (z_if (z_tcmp (zo_lt hr.units0) (z_ix zi_any (z_var 4) (z_var 9) (fun _ _ => rfl)) z_int (nomark _)) (z_var 7) (z_callB (zc_min2 rfl) (by rfl) hB.min (by decide +kernel) (zpa_cons (z_ix zi_any (z_var 4) (z_var 9) (fun _ _ => rfl)) (zpa_cons (z_var 7) zpa_nil)))) (zg_subL (z_var 4) (z_var 9))))) (zs_one (z_asg (z_if (z_tcmp (zo_lt hr.units0) (z_ix zi_any (z_var 3) (z_var 8) (fun _ _ => rfl)) z_int (nomark _)) (z_var 7) (z_callB (zc_min2 rfl) (by rfl) hB.min (by decide +kernel) (zpa_cons (z_ix zi_any (z_var 3) (z_var 8) (fun _ _ => rfl)) (zpa_cons (z_var 7) zpa_nil)))) (zg_subL (z_var 3) (z_var 8))))))))) zs_nil)))
    (zs_one (z_ret (z_tup (zpa_cons (z_var 3) (zpa_cons (z_var 4) zpa_nil)))))))), rfl⟩
  obtain ⟨_, h, rfl⟩ := h
  exact h
abbrev s__law_near : Stmt := topS 15
abbrev nN__law_near : List Str := ["gates", "tag"]
theorem sc__law_near : FnScope nN__law_near ["gates", "tag"] (defScope s__law_near) := ⟨rfl, rfl, rfl, by decide +kernel, rfl, by decide +kernel, by decide +kernel⟩
def t__law_near (sp__law_misreads : ZC) : ZS :=
    (zRet (zCall qTup (zCons (zOp qIx (zCallF 3 sp__law_misreads (zCons (zVar 0) (zCons (zVar 1) (zCons (zUn qNeg (zC (.int 1))) zNil)))) (zC (.int 1))) zNil)))
theorem b__law_near {P : Program} {w : World} {K : PySem.W.Frag} {mg : Str → Option Value} {base : Heap} {TB : List Addr} {k : Nat} {f : Addr} {sp__law_misreads : ZC} (hB : Bl mg) (c__law_misreads : Cal P w K mg base TB k "_law_misreads" 3 sp__law_misreads) (cdv : Value) (A : Around) (outer : List Env) (s : Shared) (H : Hp) (E : XK)
    (hr : Room k (A.deeper (envOfC "_law_near" (defScope s__law_near) s.heap.objs.size f cdv))) : ZPSs TB (cxOf CX0 P w K mg base nN__law_near "_law_near" (defScope s__law_near) f cdv A outer s H E).nox (defBody s__law_near) (t__law_near sp__law_misreads) := by
  have nd := sc__law_near.nd
  have h : ∃ t, ZPSs TB (cxOf CX0 P w K mg base nN__law_near "_law_near" (defScope s__law_near) f cdv A outer s H E).nox (defBody s__law_near) t ∧ t = t__law_near sp__law_misreads := ⟨_, (zs_one (z_ret (z_callTy zc_tup (by rfl) hB.tuple (by decide +kernel) (zpa_cons (z_ix zi_any (z_cal c__law_misreads hr rfl (zpa_cons (z_var 0) (zpa_cons (z_var 1) (zpa_cons (z_un zo_neg z_int) zpa_nil)))) z_int (fun _ _ => rfl)) zpa_nil)))), rfl⟩
  obtain ⟨_, h, rfl⟩ := h
  exact h
abbrev s__law_sure : Stmt := topS 16
abbrev nN__law_sure : List Str := ["gates", "tag", "door", "least", "k"]
theorem sc__law_sure : FnScope nN__law_sure ["gates", "tag", "door"] (defScope s__law_sure) := ⟨rfl, rfl, rfl, by decide +kernel, rfl, by decide +kernel, by decide +kernel⟩
def t__law_sure (sp__law_near sp__law_misreads : ZC) : ZS :=
    (zSeq (zAsg (zOp qIx (zCallF 2 sp__law_near (zCons (zVar 0) (zCons (zVar 1) zNil))) (zVar 2)) (zgName 3))
    (zSeq (zIfS (zTb (zOp qLt (zVar 3) (zC (.int 0)))) (zRet (zTup zNil)) zNext)
    (zRet (zCall qTup (zCons (zLc (zRngI (zCons (zCall qLen (zCons (zVar 0) zNil)) zNil)) (zgName 4) (zTb (zOp (qEq true) (zOp qIx (zOp qIx (zCallF 3 sp__law_misreads (zCons (zVar 0) (zCons (zVar 1) (zCons (zVar 4) zNil)))) (zC (.int 1))) (zVar 2)) (zVar 3))) (zVar 4) [4]) zNil)))))
theorem b__law_sure {P : Program} {w : World} {K : PySem.W.Frag} {mg : Str → Option Value} {base : Heap} {TB : List Addr} {k : Nat} {f : Addr} {sp__law_near sp__law_misreads : ZC} (hB : Bl mg) (c__law_near : Cal P w K mg base TB k "_law_near" 2 sp__law_near) (c__law_misreads : Cal P w K mg base TB k "_law_misreads" 3 sp__law_misreads) (cdv : Value) (A : Around) (outer : List Env) (s : Shared) (H : Hp) (E : XK)
    (hr : Room k (A.deeper (envOfC "_law_sure" (defScope s__law_sure) s.heap.objs.size f cdv))) : ZPSs TB (cxOf CX0 P w K mg base nN__law_sure "_law_sure" (defScope s__law_sure) f cdv A outer s H E).nox (defBody s__law_sure) (t__law_sure sp__law_near sp__law_misreads) := by
  have nd := sc__law_sure.nd
  have h : ∃ t, ZPSs TB (cxOf CX0 P w K mg base nN__law_sure "_law_sure" (defScope s__law_sure) f cdv A outer s H E).nox (defBody s__law_sure) t ∧ t = t__law_sure sp__law_near sp__law_misreads := ⟨_, (zs_cons (z_set (i := 3) nd rfl (Or.inr rfl) (z_ix zi_any (z_cal c__law_near hr rfl (zpa_cons (z_var 0) (zpa_cons (z_var 1) zpa_nil))) (z_var 2) (fun _ _ => rfl)))
    (zs_cons (z_ifS (z_tcmp (zo_lt hr.units0) (z_var 3) z_int (nomark _)) (zs_one (z_ret (z_tup zpa_nil))) zs_nil)
    (zs_one (z_ret (z_callTy zc_tup (by rfl) hB.tuple (by decide +kernel) (zpa_cons (z_lc (own := [("k", 4)]) rfl nd (zi_range1 (by rfl) hB.range (zpa_cons (z_callB zc_len (by rfl) hB.len (by decide +kernel) (zpa_cons (z_var 0) zpa_nil)) zpa_nil)) (blkOk_by (N := nN__law_sure) (sc := defScope s__law_sure) (by decide +kernel)) (fun _ _ _ _ _ => (zgc_name (i := 4) nd rfl (Or.inl rfl) (by decide))) (fun _ _ _ _ _ => (zts_one (z_tcmp (zo_ne hr.units) (z_ix zi_any (z_ix zi_any (z_cal c__law_misreads hr rfl (zpa_cons (z_var 0) (zpa_cons (z_var 1) (zpa_cons (z_var 4) zpa_nil)))) z_int (fun _ _ => rfl)) (z_var 2) (fun _ _ => rfl)) (z_var 3) (nomark _)))) (fun _ _ _ _ _ => (z_var 4))) zpa_nil)))))), rfl⟩
  obtain ⟨_, h, rfl⟩ := h
  exact h
abbrev s__law_bags_right : Stmt := topS 17
abbrev nN__law_bags_right : List Str := ["gates", "tags", "near", "tag", "door", "last", "misreads", "due"]
theorem sc__law_bags_right : FnScope nN__law_bags_right ["gates"] (defScope s__law_bags_right) := ⟨rfl, rfl, rfl, by decide +kernel, rfl, by decide +kernel, by decide +kernel⟩
def t__law_bags_right (sp__law_near sp__law_same sp_whose_bag sp_may_come sp_misreads_to : ZC) : ZS :=
    (zSeq (zAsg (zCall qLen (zCons (zOp qIx (zVar 0) (zC (.int 0))) zNil)) (zgName 1))
    (zSeq (zAsg (zLc (zRngI (zCons (zVar 1) zNil)) (zgName 3) (fun _ S K => K true S) (zCallF 2 sp__law_near (zCons (zVar 0) (zCons (zVar 3) zNil))) [3]) (zgName 2))
    (zSeq (zFor (zRngI (zCons (zC (.int 10)) zNil)) (zgName 4) (zSeq (zAsg (zTup zNil) (zgName 5))
    (zFor (zSeqI (zLst (zCons (zC (.int 0)) (zCons (zC (.int 1)) (zCons (zC (.int 2)) (zCons (zC (.int 4)) (zCons (zC (.int 10)) zNil))))))) (zgName 6) (zSeq (zAsg (zCall qTup (zCons (zLc (zRngI (zCons (zVar 1) zNil)) (zgName 3) (zTb (zChain qLeI qLeI (zC (.int 0)) (zOp qIx (zOp qIx (zVar 2) (zVar 3)) (zVar 4)) (zVar 6))) (zVar 3) [3]) zNil)) (zgName 7))
    (zSeq (zIfS (zOr (zNot (zTru (zCallF 2 sp__law_same (zCons (zCallF 3 sp_whose_bag (zCons (zVar 0) (zCons (zVar 4) (zCons (zVar 6) zNil)))) (zCons (zVar 7) zNil))))) (zTb (zOp (qEq true) (zLc (zSeqI (zVar 5)) (zgName 3) (zTb (zOp (qIn true) (zVar 3) (zVar 7))) (zVar 3) [3]) (zLst zNil)))) (zRet (zC (.bl false))) zNext)
    (zSeq (zIfS (zTb (zOp (qEq true) (zLc (zRngI (zCons (zVar 1) zNil)) (zgName 3) (zTb (zOp (qEq true) (zOp (qIn false) (zVar 4) (zCallF 3 sp_may_come (zCons (zVar 0) (zCons (zVar 3) (zCons (zVar 6) zNil))))) (zOp (qIn false) (zVar 3) (zVar 7)))) (zVar 3) [3]) (zLst zNil))) (zRet (zC (.bl false))) zNext)
    (zAsg (zVar 7) (zgName 5))))))))
    (zRet (zOp (qEq false) (zLc (zRngI (zCons (zVar 1) zNil)) (zgName 3) (zNot (zTru (zCallF 2 sp__law_same (zCons (zCallF 2 sp_misreads_to (zCons (zVar 0) (zCons (zVar 3) zNil))) (zCons (zOp qIx (zVar 2) (zVar 3)) zNil))))) (zVar 3) [3]) (zLst zNil))))))
theorem b__law_bags_right {P : Program} {w : World} {K : PySem.W.Frag} {mg : Str → Option Value} {base : Heap} {TB : List Addr} {k : Nat} {f : Addr} {sp__law_near sp__law_same sp_whose_bag sp_may_come sp_misreads_to : ZC} (hB : Bl mg) (c__law_near : Cal P w K mg base TB k "_law_near" 2 sp__law_near) (c__law_same : Cal P w K mg base TB k "_law_same" 2 sp__law_same) (c_whose_bag : Cal P w K mg base TB k "whose_bag" 3 sp_whose_bag) (c_may_come : Cal P w K mg base TB k "may_come" 3 sp_may_come) (c_misreads_to : Cal P w K mg base TB k "misreads_to" 2 sp_misreads_to) (cdv : Value) (A : Around) (outer : List Env) (s : Shared) (H : Hp) (E : XK)
    (hr : Room k (A.deeper (envOfC "_law_bags_right" (defScope s__law_bags_right) s.heap.objs.size f cdv))) : ZPSs TB (cxOf CX0 P w K mg base nN__law_bags_right "_law_bags_right" (defScope s__law_bags_right) f cdv A outer s H E).nox (defBody s__law_bags_right) (t__law_bags_right sp__law_near sp__law_same sp_whose_bag sp_may_come sp_misreads_to) := by
  have nd := sc__law_bags_right.nd
  have h : ∃ t, ZPSs TB (cxOf CX0 P w K mg base nN__law_bags_right "_law_bags_right" (defScope s__law_bags_right) f cdv A outer s H E).nox (defBody s__law_bags_right) t ∧ t = t__law_bags_right sp__law_near sp__law_same sp_whose_bag sp_may_come sp_misreads_to := ⟨_, (zs_cons (z_set (i := 1) nd rfl (Or.inl rfl) (z_callB zc_len (by rfl) hB.len (by decide +kernel) (zpa_cons (z_ix zi_any (z_var 0) z_int (fun _ _ => rfl)) zpa_nil)))
    (zs_cons (z_set (i := 2) nd rfl (Or.inr rfl) (z_lc (own := [("tag", 3)]) rfl nd (zi_range1 (by rfl) hB.range (zpa_cons (z_var 1) zpa_nil)) (blkOk_by (N := nN__law_bags_right) (sc := defScope s__law_bags_right) (by decide +kernel)) (fun _ _ _ _ _ => (zgc_name (i := 3) nd rfl (Or.inl rfl) (by decide))) (fun _ _ _ _ _ => zts_nil) (fun _ _ _ _ _ => (z_cal c__law_near hr rfl (zpa_cons (z_var 0) (zpa_cons (z_var 3) zpa_nil))))))
    (zs_cons (z_for PassesOwn.never rfl (zi_range1 (by rfl) hB.range (zpa_cons z_int zpa_nil)) (zg_name (i := 4) nd rfl (Or.inr rfl)) (zs_cons (z_set (i := 5) nd rfl (Or.inl rfl) (z_tup zpa_nil))
    (zs_one (z_for PassesOwn.never rfl (zi_seq (z_lst (zpa_cons z_int (zpa_cons z_int (zpa_cons z_int (zpa_cons z_int (zpa_cons z_int zpa_nil))))))) (zg_name (i := 6) nd rfl (Or.inr rfl)) (zs_cons (z_set (i := 7) nd rfl (Or.inr rfl) (z_callTy zc_tup (by rfl) hB.tuple (by decide +kernel) (zpa_cons (z_lc (own := [("tag", 3)]) rfl nd (zi_range1 (by rfl) hB.range (zpa_cons (z_var 1) zpa_nil)) (blkOk_by (N := nN__law_bags_right) (sc := defScope s__law_bags_right) (by decide +kernel)) (fun _ _ _ _ _ => (zgc_name (i := 3) nd rfl (Or.inl rfl) (by decide))) (fun _ _ _ _ _ => (zts_one (z_tchain zo_le zo_le z_int (z_ix zi_any (z_ix zi_any (z_var 2) (z_var 3) (fun _ _ => rfl)) (z_var 4) (fun _ _ => rfl)) (z_var 6)))) (fun _ _ _ _ _ => (z_var 3))) zpa_nil)))
    (zs_cons (z_ifS (ZPW.zt (zw_or (z_tnot (z_truth (z_cal c__law_same hr rfl (zpa_cons (z_cal c_whose_bag hr rfl (zpa_cons (z_var 0) (zpa_cons (z_var 4) (zpa_cons (z_var 6) zpa_nil)))) (zpa_cons (z_var 7) zpa_nil))))) (zw_or1 (z_tcmp (zo_ne hr.units) (z_lc (own := [("tag", 3)]) rfl nd (zi_seq (z_var 5)) (blkOk_by (N := nN__law_bags_right) (sc := defScope s__law_bags_right) (by decide +kernel)) (fun _ _ _ _ _ => (zgc_name (i := 3) nd rfl (Or.inl rfl) (by decide))) (fun _ _ _ _ _ => (zts_one (z_tcmp (zo_notin (hu65 hr)) (z_var 3) (z_var 7) (by rfl)))) (fun _ _ _ _ _ => (z_var 3))) (z_lst zpa_nil) (nomark _))))) (zs_one (z_ret z_bl)) zs_nil)
    (zs_cons (z_ifS (z_tcmp (zo_ne hr.units) (z_lc (own := [("tag", 3)]) rfl nd (zi_range1 (by rfl) hB.range (zpa_cons (z_var 1) zpa_nil)) (blkOk_by (N := nN__law_bags_right) (sc := defScope s__law_bags_right) (by decide +kernel)) (fun _ _ _ _ _ => (zgc_name (i := 3) nd rfl (Or.inl rfl) (by decide))) (fun _ _ _ _ _ => (zts_one (z_tcmp (zo_ne hr.units) (z_cmp (zo_in (hu65 hr)) (z_var 4) (z_cal c_may_come hr rfl (zpa_cons (z_var 0) (zpa_cons (z_var 3) (zpa_cons (z_var 6) zpa_nil)))) (by rfl)) (z_cmp (zo_in (hu65 hr)) (z_var 3) (z_var 7) (by rfl)) (nomark _)))) (fun _ _ _ _ _ => (z_var 3))) (z_lst zpa_nil) (nomark _)) (zs_one (z_ret z_bl)) zs_nil)
    (zs_one (z_set (i := 5) nd rfl (Or.inl rfl) (z_var 7))))))))))
    (zs_one (z_ret (z_cmp (zo_eq hr.units) (z_lc (own := [("tag", 3)]) rfl nd (zi_range1 (by rfl) hB.range (zpa_cons (z_var 1) zpa_nil)) (blkOk_by (N := nN__law_bags_right) (sc := defScope s__law_bags_right) (by decide +kernel)) (fun _ _ _ _ _ => (zgc_name (i := 3) nd rfl (Or.inl rfl) (by decide))) (fun _ _ _ _ _ => (zts_one (z_tnot (z_truth (z_cal c__law_same hr rfl (zpa_cons (z_cal c_misreads_to hr rfl (zpa_cons (z_var 0) (zpa_cons (z_var 3) zpa_nil))) (zpa_cons (z_ix zi_any (z_var 2) (z_var 3) (fun _ _ => rfl)) zpa_nil))))))) (fun _ _ _ _ _ => (z_var 3))) (z_lst zpa_nil) (nomark _))))))), rfl⟩
  obtain ⟨_, h, rfl⟩ := h
  exact h
abbrev s__law_sure_right : Stmt := topS 18
abbrev nN__law_sure_right : List Str := ["gates", "ahead", "gate", "to", "more", "tag", "door", "due", "k"]
theorem sc__law_sure_right : FnScope nN__law_sure_right ["gates"] (defScope s__law_sure_right) := ⟨rfl, rfl, rfl, by decide +kernel, rfl, by decide +kernel, by decide +kernel⟩
def t__law_sure_right (sp__law_sure sp__law_same sp_sure_gates : ZC) : ZS :=
    (zSeq (zAsg (zOp qAdd (zTup (zCons (zCall qTup (zCons (zOp qMul (zLst (zCons (zC (.int 1)) zNil)) (zCall qLen (zCons (zOp qIx (zVar 0) (zC (.int 0))) zNil))) zNil)) zNil)) (zCall qTup (zCons (zLc (zSeqI (zVar 0)) (zgName 2) (fun _ S K => K true S) (zCall qTup (zCons (zLc (zSeqI (zVar 2)) (zgName 3) (fun _ S K => K true S) (zIf (zTb (zOp qGe (zVar 3) (zC (.int 0)))) (zOp qAdd (zVar 3) (zC (.int 1))) (zVar 3)) [3]) zNil)) [2]) zNil))) (zgName 1))
    (zSeq (zAsg (zOp qAdd (zVar 0) (zTup (zCons (zOp qIx (zVar 0) (zUn qNeg (zC (.int 1)))) zNil))) (zgName 4))
    (zSeq (zFor (zRngI (zCons (zCall qLen (zCons (zOp qIx (zVar 0) (zC (.int 0))) zNil)) zNil)) (zgName 5) (zFor (zRngI (zCons (zC (.int 10)) zNil)) (zgName 6) (zSeq (zAsg (zCallF 3 sp__law_sure (zCons (zVar 0) (zCons (zVar 5) (zCons (zVar 6) zNil)))) (zgName 7))
    (zSeq (zIfS (zOr (zNot (zTru (zCallF 2 sp__law_same (zCons (zCallF 3 sp_sure_gates (zCons (zVar 0) (zCons (zVar 5) (zCons (zVar 6) zNil)))) (zCons (zVar 7) zNil))))) (zAnd (zTb (zOp (qEq true) (zVar 7) (zTup zNil))) (zTb (zOp (qEq true) (zOp qIx (zVar 7) (zC (.int 0))) (zC (.int 0)))))) (zRet (zC (.bl false))) zNext)
    (zSeq (zIfS (zAnd (zTb (zOp qLt (zCall qLen (zCons (zVar 0) zNil)) (zC (.int 10)))) (zTb (zOp (qEq true) (zVar 7) (zTup zNil)))) (zIfS (zNot (zTru (zCallF 2 sp__law_same (zCons (zCallK 3 [2, 1, 0] sp_sure_gates (zCons (zVar 6) (zCons (zVar 5) (zCons (zVar 1) zNil)))) (zCons (zOp qAdd (zTup (zCons (zC (.int 0)) zNil)) (zCall qTup (zCons (zLc (zSeqI (zVar 7)) (zgName 8) (fun _ S K => K true S) (zOp qAdd (zVar 8) (zC (.int 1))) [8]) zNil))) zNil))))) (zRet (zC (.bl false))) zNext) zNext)
    (zIfS (zAnd (zTb (zOp qLt (zCall qLen (zCons (zVar 0) zNil)) (zC (.int 10)))) (zNot (zTru (zCallF 2 sp__law_same (zCons (zCallF 3 sp_sure_gates (zCons (zVar 4) (zCons (zVar 5) (zCons (zVar 6) zNil)))) (zCons (zVar 7) zNil)))))) (zRet (zC (.bl false))) zNext))))))
    (zRet (zC (.bl true))))))
theorem b__law_sure_right {P : Program} {w : World} {K : PySem.W.Frag} {mg : Str → Option Value} {base : Heap} {TB : List Addr} {k : Nat} {f : Addr} {sp__law_sure sp__law_same sp_sure_gates : ZC} (hB : Bl mg) (c__law_sure : Cal P w K mg base TB k "_law_sure" 3 sp__law_sure) (c__law_same : Cal P w K mg base TB k "_law_same" 2 sp__law_same) (c_sure_gates : Cal P w K mg base TB k "sure_gates" 3 sp_sure_gates) (k_sure_gates : CalK P w K mg base TB k "sure_gates" 3 ["door", "tag", "gates"] [2, 1, 0] sp_sure_gates) (cdv : Value) (A : Around) (outer : List Env) (s : Shared) (H : Hp) (E : XK)
    (hr : Room k (A.deeper (envOfC "_law_sure_right" (defScope s__law_sure_right) s.heap.objs.size f cdv))) : ZPSs TB (cxOf CX0 P w K mg base nN__law_sure_right "_law_sure_right" (defScope s__law_sure_right) f cdv A outer s H E).nox (defBody s__law_sure_right) (t__law_sure_right sp__law_sure sp__law_same sp_sure_gates) := by
  have nd := sc__law_sure_right.nd
  have h : ∃ t, ZPSs TB (cxOf CX0 P w K mg base nN__law_sure_right "_law_sure_right" (defScope s__law_sure_right) f cdv A outer s H E).nox (defBody s__law_sure_right) t ∧ t = t__law_sure_right sp__law_sure sp__law_same sp_sure_gates := ⟨_, (zs_cons (z_set (i := 1) nd rfl (Or.inl rfl) (z_op zo_add (z_tup (zpa_cons (z_callTy zc_tup (by rfl) hB.tuple (by decide +kernel) (zpa_cons (z_op zo_mul (z_lst (zpa_cons z_int zpa_nil)) (z_callB zc_len (by rfl) hB.len (by decide +kernel) (zpa_cons (z_ix zi_any (z_var 0) z_int (fun _ _ => rfl)) zpa_nil))) zpa_nil)) zpa_nil)) (z_callTy zc_tup (by rfl) hB.tuple (by decide +kernel) (zpa_cons (z_lc (own := [("gate", 2)]) rfl nd (zi_seq (z_var 0)) (blkOk_by (N := nN__law_sure_right) (sc := defScope s__law_sure_right) (by decide +kernel)) (fun _ _ _ _ _ => (zgc_name (i := 2) nd rfl (Or.inl rfl) (by decide))) (fun _ _ _ _ _ => zts_nil) (fun _ _ _ _ _ => (z_callTy zc_tup (by rfl) hB.tuple (by decide +kernel) (zpa_cons (z_lc (own := [("to", 3)]) rfl nd (zi_seq (z_var 2)) (blkOk_by (by rfl)) (fun _ _ _ _ _ => (zgc_name (i := 3) nd rfl (Or.inl rfl) (by decide))) (fun _ _ _ _ _ => zts_nil) (fun _ _ _ _ _ => (z_if (z_tcmp zo_ge (z_var 3) z_int (nomark _)) (z_op zo_add (z_var 3) z_int) (z_var 3)))) zpa_nil)))) zpa_nil))))
    (zs_cons (z_set (i := 4) nd rfl (Or.inl rfl) (z_op zo_add (z_var 0) (z_tup (zpa_cons (z_ix zi_any (z_var 0) (z_un zo_neg z_int) (fun _ _ => rfl)) zpa_nil))))
    (zs_cons (z_for PassesOwn.never rfl (zi_range1 (by rfl) hB.range (zpa_cons (z_callB zc_len (by rfl) hB.len (by decide +kernel) (zpa_cons (z_ix zi_any (z_var 0) z_int (fun _ _ => rfl)) zpa_nil)) zpa_nil)) (zg_name (i := 5) nd rfl (Or.inl rfl)) (zs_one (z_for PassesOwn.never rfl (zi_range1 (by rfl) hB.range (zpa_cons z_int zpa_nil)) (zg_name (i := 6) nd rfl (Or.inl rfl)) (zs_cons (z_set (i := 7) nd rfl (Or.inl rfl) (z_cal c__law_sure hr rfl (zpa_cons (z_var 0) (zpa_cons (z_var 5) (zpa_cons (z_var 6) zpa_nil)))))
    (zs_cons (z_ifS (ZPW.zt (zw_or (z_tnot (z_truth (z_cal c__law_same hr rfl (zpa_cons (z_cal c_sure_gates hr rfl (zpa_cons (z_var 0) (zpa_cons (z_var 5) (zpa_cons (z_var 6) zpa_nil)))) (zpa_cons (z_var 7) zpa_nil))))) (zw_or1 (ZPW.zt (zw_and (z_tcmp (zo_ne hr.units) (z_var 7) (z_tup zpa_nil) (nomark _)) (zw_and1 (z_tcmp (zo_ne hr.units) (z_ix zi_any (z_var 7) z_int (fun _ _ => rfl)) z_int (nomark _)))))))) (zs_one (z_ret z_bl)) zs_nil)
    (zs_cons (z_ifS (ZPW.zt (zw_and (z_tcmp (zo_lt hr.units0) (z_callB zc_len (by rfl) hB.len (by decide +kernel) (zpa_cons (z_var 0) zpa_nil)) z_int (nomark _)) (zw_and1 (z_tcmp (zo_ne hr.units) (z_var 7) (z_tup zpa_nil) (nomark _))))) (zs_one (z_ifS (z_tnot (z_truth (z_cal c__law_same hr rfl (zpa_cons (z_calK k_sure_gates hr rfl (zpk_cons (z_var 6) (zpk_cons (z_var 5) (zpk_cons (z_var 1) zpk_nil)))) (zpa_cons (z_op zo_add (z_tup (zpa_cons z_int zpa_nil)) (z_callTy zc_tup (by rfl) hB.tuple (by decide +kernel) (zpa_cons (z_lc (own := [("k", 8)]) rfl nd (zi_seq (z_var 7)) (blkOk_by (N := nN__law_sure_right) (sc := defScope s__law_sure_right) (by decide +kernel)) (fun _ _ _ _ _ => (zgc_name (i := 8) nd rfl (Or.inl rfl) (by decide))) (fun _ _ _ _ _ => zts_nil) (fun _ _ _ _ _ => (z_op zo_add (z_var 8) z_int))) zpa_nil))) zpa_nil))))) (zs_one (z_ret z_bl)) zs_nil)) zs_nil)
    (zs_one (z_ifS (ZPW.zt (zw_and (z_tcmp (zo_lt hr.units0) (z_callB zc_len (by rfl) hB.len (by decide +kernel) (zpa_cons (z_var 0) zpa_nil)) z_int (nomark _)) (zw_and1 (z_tnot (z_truth (z_cal c__law_same hr rfl (zpa_cons (z_cal c_sure_gates hr rfl (zpa_cons (z_var 4) (zpa_cons (z_var 5) (zpa_cons (z_var 6) zpa_nil)))) (zpa_cons (z_var 7) zpa_nil)))))))) (zs_one (z_ret z_bl)) zs_nil))))))))
    (zs_one (z_ret z_bl))))), rfl⟩
  obtain ⟨_, h, rfl⟩ := h
  exact h
abbrev s_law : Stmt := topS 19
abbrev nN_law : List Str := ["script", "source", "tags", "many", "doors", "gates", "alike"]
theorem sc_law : FnScope nN_law ["script"] (defScope s_law) := ⟨rfl, rfl, rfl, by decide +kernel, rfl, by decide +kernel, by decide +kernel⟩
def t_law (sp__law_source sp__law_pick sp__law_stirred sp__law_belt sp__law_bags_right sp__law_sure_right : ZC) : ZS :=
    (zSeq (zAsg (zCallF 1 sp__law_source (zCons (zVar 0) zNil)) (zgName 1))
    (zSeq (zPar 2 3 (zCons (zOp qAdd (zC (.int 1)) (zCallF 2 sp__law_pick (zCons (zVar 1) (zCons (zC (.int 4)) zNil)))) (zCons (zOp qAdd (zC (.int 1)) (zCallF 2 sp__law_pick (zCons (zVar 1) (zCons (zC (.int 10)) zNil)))) zNil)))
    (zSeq (zAsg (zSl (zCallF 2 sp__law_stirred (zCons (zVar 1) (zCons (zLstRg (zRg1 (zC (.int 10)))) zNil))) zNoPart (zPart (zOp qAdd (zC (.int 1)) (zCallF 2 sp__law_pick (zCons (zVar 1) (zCons (zC (.int 4)) zNil)))))) (zgName 4))
    (zSeq (zAsg (zCallF 4 sp__law_belt (zCons (zVar 1) (zCons (zVar 3) (zCons (zVar 2) (zCons (zVar 4) zNil))))) (zgName 5))
    (zSeq (zIfS (zTb (zOp (qEq false) (zCallF 2 sp__law_pick (zCons (zVar 1) (zCons (zC (.int 2)) zNil))) (zC (.int 0)))) (zSeq (zAsg (zCallF 2 sp__law_pick (zCons (zVar 1) (zCons (zVar 3) zNil))) (zgName 6))
    (zAsg (zOp qAdd (zOp qAdd (zSl (zVar 5) zNoPart (zPart (zVar 6))) (zTup (zCons (zOp qMul (zTup (zCons (zOp qIx (zOp qIx (zVar 5) (zVar 6)) (zC (.int 0))) zNil)) (zVar 2)) zNil))) (zSl (zVar 5) (zPart (zOp qAdd (zVar 6) (zC (.int 1)))) zNoPart)) (zgName 5))) zNext)
    (zRet (zAndV (zCallF 1 sp__law_bags_right (zCons (zVar 5) zNil)) (zCallF 1 sp__law_sure_right (zCons (zVar 5) zNil)))))))))
theorem b_law {P : Program} {w : World} {K : PySem.W.Frag} {mg : Str → Option Value} {base : Heap} {TB : List Addr} {k : Nat} {f : Addr} {sp__law_source sp__law_pick sp__law_stirred sp__law_belt sp__law_bags_right sp__law_sure_right : ZC} (hB : Bl mg) (c__law_source : Cal P w K mg base TB k "_law_source" 1 sp__law_source) (c__law_pick : Cal P w K mg base TB k "_law_pick" 2 sp__law_pick) (c__law_stirred : Cal P w K mg base TB k "_law_stirred" 2 sp__law_stirred) (c__law_belt : Cal P w K mg base TB k "_law_belt" 4 sp__law_belt) (c__law_bags_right : Cal P w K mg base TB k "_law_bags_right" 1 sp__law_bags_right) (c__law_sure_right : Cal P w K mg base TB k "_law_sure_right" 1 sp__law_sure_right) (cdv : Value) (A : Around) (outer : List Env) (s : Shared) (H : Hp) (E : XK)
    (hr : Room k (A.deeper (envOfC "law" (defScope s_law) s.heap.objs.size f cdv))) : ZPSs TB (cxOf CX0 P w K mg base nN_law "law" (defScope s_law) f cdv A outer s H E).nox (defBody s_law) (t_law sp__law_source sp__law_pick sp__law_stirred sp__law_belt sp__law_bags_right sp__law_sure_right) := by
  have nd := sc_law.nd
  have h : ∃ t, ZPSs TB (cxOf CX0 P w K mg base nN_law "law" (defScope s_law) f cdv A outer s H E).nox (defBody s_law) t ∧ t = t_law sp__law_source sp__law_pick sp__law_stirred sp__law_belt sp__law_bags_right sp__law_sure_right := ⟨_, (zs_cons (z_set (i := 1) nd rfl (Or.inl rfl) (z_cal c__law_source hr rfl (zpa_cons (z_var 0) zpa_nil)))
    (zs_cons (z_par (i := 2) (j := 3) rfl nd rfl rfl (by decide) rfl rfl (zpa_cons (z_op zo_add z_int (z_cal c__law_pick hr rfl (zpa_cons (z_var 1) (zpa_cons z_int zpa_nil)))) (zpa_cons (z_op zo_add z_int (z_cal c__law_pick hr rfl (zpa_cons (z_var 1) (zpa_cons z_int zpa_nil)))) zpa_nil)) (by rfl))
    (zs_cons (z_set (i := 4) nd rfl (Or.inl rfl) (z_sl (z_cal c__law_stirred hr rfl (zpa_cons (z_var 1) (zpa_cons (z_lstRg rfl (by rfl) hB.list (zrg_1 (by rfl) hB.range z_int)) zpa_nil))) zpo_none (zpo_some (z_op zo_add z_int (z_cal c__law_pick hr rfl (zpa_cons (z_var 1) (zpa_cons z_int zpa_nil)))))))
    (zs_cons (z_set (i := 5) nd rfl (Or.inl rfl) (z_cal c__law_belt hr rfl (zpa_cons (z_var 1) (zpa_cons (z_var 3) (zpa_cons (z_var 2) (zpa_cons (z_var 4) zpa_nil))))))
    (zs_cons (z_ifS (z_tcmp (zo_eq hr.units) (z_cal c__law_pick hr rfl (zpa_cons (z_var 1) (zpa_cons z_int zpa_nil))) z_int (nomark _)) (zs_cons (z_set (i := 6) nd rfl (Or.inl rfl) (z_cal c__law_pick hr rfl (zpa_cons (z_var 1) (zpa_cons (z_var 3) zpa_nil))))
    (zs_one (z_set (i := 5) nd rfl (Or.inl rfl) (z_op zo_add (z_op zo_add (z_sl (z_var 5) zpo_none (zpo_some (z_var 6))) (z_tup (zpa_cons (z_op zo_mul (z_tup (zpa_cons (z_ix zi_any (z_ix zi_any (z_var 5) (z_var 6) (fun _ _ => rfl)) z_int (fun _ _ => rfl)) zpa_nil)) (z_var 2)) zpa_nil))) (z_sl (z_var 5) (zpo_some (z_op zo_add (z_var 6) z_int)) zpo_none))))) zs_nil)
    (zs_one (z_ret (z_and (z_cal c__law_bags_right hr rfl (zpa_cons (z_var 5) zpa_nil)) (z_one (z_cal c__law_sure_right hr rfl (zpa_cons (z_var 5) zpa_nil))))))))))), rfl⟩
  obtain ⟨_, h, rfl⟩ := h
  exact h
end L83

set_option maxHeartbeats 4000000
namespace L83
open PySem PySem.Spec PyProof.Rows L2 Z FS
local macro_rules | `(tactic| tb_start) => `(tactic| first | assumption | exact True.intro | exact ⟨_, _, rfl, by ke_read⟩ | ((with_reducible refine' MulOk.r ?s1 ?s2); (case s1 => (decide)); (case s2 => (decide))) | ((with_reducible refine' DivOk.any ?s1); (case s1 => (assumption))) | ((with_reducible refine' DivOk.small ?s1 ?s2); (case s1 => (decide)); (case s2 => (decide))) | ((with_reducible refine' MulOk.r ?s1 ?s2); (case s1 => (omega)); (case s2 => (omega))) | ((with_reducible refine' MulOk.l ?s1 ?s2); (case s1 => (omega)); (case s2 => (omega))) | ((with_reducible refine' DivOk.small ?s1 ?s2); (case s1 => (omega)); (case s2 => (omega))) | ((with_reducible refine' PowOk.lit ?s1 ?s2 ?s3); (case s1 => (decide)); (case s2 => (decide)); (case s3 => (decide))) | omega | ((with_reducible refine' s_sz ?s1); (case s1 => (first | omega | (simp only [List.length_append, List.length_cons, List.length_nil, List.length_map, List.length_set, List.length_take, List.length_drop, List.length_dropLast] <;> omega)))) | ((with_reducible refine' s_szl ?s1); (case s1 => (first | omega | (simp only [List.length_append, List.length_cons, List.length_nil, List.length_map, List.length_set, List.length_take, List.length_drop, List.length_dropLast] <;> omega)))) | ke_read | ked_read | decide)
local macro_rules | `(tactic| ke_reads) => `(tactic| first | assumption | exact Ne.symm (by assumption) | omega | (simp only [List.length_append, List.length_cons, List.length_nil, List.length_set] at * <;> omega))
local macro_rules | `(tactic| ked_reads) => `(tactic| first | assumption | ((with_reducible refine' lt_of_get ?s1); (case s1 => (ked_read))))
local macro_rules | `(tactic| ked_read) => `(tactic| first | assumption | ((with_reducible refine' List.getElem?_set_self ?s1); (case s1 => (ked_reads))) | ((with_reducible refine' set_ne' ?s1 ?s2); (case s1 => (ke_reads)); (case s2 => (ked_read))) | exact (app_get0 _ _).trans rfl | exact (app_get _ _ _).trans rfl | ((with_reducible refine' app_l ?s1); (case s1 => (ked_read))))
local macro_rules | `(tactic| ke_read) => `(tactic| first | assumption | (apply getL_of; assumption) | ((with_reducible refine' getL_set_self ?s1); (case s1 => (ked_reads))) | exact getL_app00 _ _ _ | exact getL_app1 _ _ _ _ | ((with_reducible refine' getL_set_ne' ?s1 ?s2); (case s1 => (ke_reads)); (case s2 => (ke_read))) | ((with_reducible refine' getL_app_l ?s1); (case s1 => (ke_read))) | exact (getL_app _ _ _).trans rfl)
local macro_rules | `(tactic| kqd_all) => `(tactic| first | assumption | (rw [atI_m1]; first | with_unfolding_all rfl | assumption) | (rw [atI_lit]; first | with_unfolding_all rfl | assumption) | (rw [atI_cast]; assumption) | exact atI_ints (by omega) (by simp only [List.length_map] at *; omega))
local macro_rules | `(tactic| kct_strs) => `(tactic| first | assumption | (rw [ixN_lit, if_pos (by simp)]; done))
local macro_rules | `(tactic| kp_flats) => `(tactic| first | with_reducible refine q_let0 ?_ | with_reducible refine q_let1 ?_ | with_reducible refine q_let2 ?_ | with_reducible refine q_let3 ?_ | with_reducible refine q_let4 ?_ | with_reducible refine q_let5 ?_ | with_reducible refine q_let6 ?_ | with_reducible refine q_let7 ?_ | with_reducible refine q_let8 ?_ | with_reducible refine q_let9 ?_ | with_reducible refine q_let10 ?_ | with_reducible refine q_let11 ?_ | with_reducible refine q_let12 ?_ | with_reducible refine q_let13 ?_ | with_reducible refine q_let14 ?_ | with_reducible refine q_let15 ?_ | with_reducible refine q_let16 ?_ | with_reducible refine q_let17 ?_ | with_reducible refine q_let18 ?_ | with_reducible refine q_let19 ?_ | with_reducible refine q_let20 ?_ | with_reducible refine q_let21 ?_ | with_reducible refine q_let22 ?_ | with_reducible refine q_let23 ?_ | with_reducible refine q_let24 ?_ | with_reducible refine q_let25 ?_ | with_reducible refine q_let26 ?_ | with_reducible refine q_let27 ?_ | with_reducible refine q_let28 ?_ | with_reducible refine q_let29 ?_ | with_reducible refine q_let30 ?_ | with_reducible refine q_let31 ?_ | with_reducible refine q_let32 ?_ | with_reducible refine q_let33 ?_ | with_reducible refine q_let34 ?_ | with_reducible refine q_let35 ?_ | with_reducible refine q_let36 ?_ | with_reducible refine q_let37 ?_ | with_reducible refine q_let38 ?_ | with_reducible refine q_let39 ?_)
local macro_rules | `(tactic| tb_rel) => `(tactic| first | ((with_reducible show qLet _ _ _ _); kp_flats) | ((with_reducible refine' i_dt ?s1 ?_); (case s1 => (first | assumption | rfl))) | ((with_reducible refine' i_df ?s1 ?_); (case s1 => (assumption))) | ((with_reducible refine' i_nf ?s1 ?_); (case s1 => (first | assumption | rfl))) | ((with_reducible refine' i_nt ?s1 ?_); (case s1 => (assumption))) | ((with_reducible refine' i_t ?s1 ?_); (case s1 => (with_unfolding_all rfl))) | ((with_reducible refine' i_f ?s1 ?_); (case s1 => (with_unfolding_all rfl))) | ((with_reducible refine' q_ix_tup ?s1 ?_); (case s1 => (kqd_all))) | ((with_reducible refine' q_ix_ref ?s1 ?s2 ?_); (case s1 => (ke_read)); (case s2 => (kqd_all))) | ((with_reducible refine' q_eq_int ?_)) | ((with_reducible refine' q_ne_int ?_)) | ((with_reducible refine' q_eq_str ?s1 ?s2 ?_); (case s1 => (first | assumption | decide +kernel)); (case s2 => (first | assumption | decide +kernel))) | ((with_reducible refine' q_ne_str ?s1 ?s2 ?_); (case s1 => (first | assumption | decide +kernel)); (case s2 => (first | assumption | decide +kernel))) | ((with_reducible refine' q_len_tup ?_)) | ((with_reducible refine' q_len_ref ?s1 ?_); (case s1 => (ke_read))) | ((with_reducible refine' s_isml ?s1 ?_); (case s1 => (ke_read))) | ((with_reducible refine' q_append2 ?s1 ?s2 ?_); (case s1 => (ked_reads)); (case s2 => (tb_start))) | ((with_reducible refine' q_append0 ?s1 ?_); (case s1 => (tb_start))) | ((with_reducible refine' q_append1 ?s1 ?_); (case s1 => (tb_start))) | ((with_reducible refine' q_append ?s1 ?s2 ?_); (case s1 => (ked_read)); (case s2 => (tb_start))) | ((with_reducible refine' q_cat ?s1 ?s2 ?s3 ?_); (case s1 => (ked_read)); (case s2 => (ked_read)); (case s3 => (tb_start))) | ((with_reducible refine' q_pop0 ?s1 ?_); (case s1 => (ked_read))) | ((with_reducible refine' q_setL2 ?s1 ?s2 ?_); (case s1 => (ked_reads)); (case s2 => (kct_strs))) | ((with_reducible refine' q_setL ?s1 ?s2 ?_); (case s1 => (ked_read)); (case s2 => (kct_strs))) | ((with_reducible refine' q_tup_tup ?_)) | ((with_reducible refine' q_tup_ref ?s1 ?_); (case s1 => (ke_read))) | ((with_reducible refine' q_list_tup ?_)) | ((with_reducible refine' q_list_ref ?s1 ?_); (case s1 => (ke_read))) | ((with_reducible refine' q_sl_tupE ?s1 ?_); (case s1 => (assumption))) | ((with_reducible refine' q_sl_refE ?s1 ?s2 ?_); (case s1 => (ke_read)); (case s2 => (assumption))) | ((with_reducible refine' q_sl_tup ?_)) | ((with_reducible refine' q_sl_ref ?s1 ?_); (case s1 => (ke_read))) | ((with_reducible refine' s_enumI_tup ?_)) | ((with_reducible refine' s_enumI_ref ?s1 ?_); (case s1 => (ke_read))) | ((with_reducible refine' s_seqI_tup ?_)) | ((with_reducible refine' s_seqI_ref ?s1 ?_); (case s1 => (ke_read))) | ((with_reducible refine' q_eq_pn (d := 8) (e := 8) ?s1 ?s2 ?s3 ?s4 ?_); (case s1 => (lsm_bools)); (case s2 => (lsm_bools)); (case s3 => (first | decide | omega)); (case s4 => (first | decide | omega))) | ((with_reducible refine' q_ne_pn (d := 8) (e := 8) ?s1 ?s2 ?s3 ?s4 ?_); (case s1 => (lsm_bools)); (case s2 => (lsm_bools)); (case s3 => (first | decide | omega)); (case s4 => (first | decide | omega))) | ((with_reducible refine' q_eq_lpn (d := 8) (e := 8) ?s1 ?s2 ?s3 ?s4 ?s5 ?s6 ?_); (case s1 => (ke_read)); (case s2 => (ke_read)); (case s3 => (lsm_bools)); (case s4 => (lsm_bools)); (case s5 => (first | decide | omega)); (case s6 => (first | decide | omega))) | ((with_reducible refine' q_ne_lpn (d := 8) (e := 8) ?s1 ?s2 ?s3 ?s4 ?s5 ?s6 ?_); (case s1 => (ke_read)); (case s2 => (ke_read)); (case s3 => (lsm_bools)); (case s4 => (lsm_bools)); (case s5 => (first | decide | omega)); (case s6 => (first | decide | omega))) | ((with_reducible refine' q_is_non ?_)) | ((with_reducible refine' q_isnot_non ?_)) | ((with_reducible refine' q_eq_bl ?_)) | ((with_reducible refine' q_ne_bl ?_)) | ((with_reducible refine' q_isi ?s1 ?s2 ?_); (case s1 => (with_unfolding_all rfl)); (case s2 => (with_unfolding_all rfl))) | ((with_reducible refine' q_in_l (d := 8) (e := 8) ?s1 ?s2 ?s3 ?s4 ?s5 ?_); (case s1 => (ke_read)); (case s2 => (lsm_bools)); (case s3 => (lsm_bools)); (case s4 => (first | decide | omega)); (case s5 => (first | decide | omega))) | ((with_reducible refine' q_in_t (d := 8) (e := 8) ?s1 ?s2 ?s3 ?s4 ?_); (case s1 => (lsm_bools)); (case s2 => (lsm_bools)); (case s3 => (first | decide | omega)); (case s4 => (first | decide | omega))) | ((with_reducible refine' q_notin_l (d := 8) (e := 8) ?s1 ?s2 ?s3 ?s4 ?s5 ?_); (case s1 => (ke_read)); (case s2 => (lsm_bools)); (case s3 => (lsm_bools)); (case s4 => (first | decide | omega)); (case s5 => (first | decide | omega))) | ((with_reducible refine' q_notin_t (d := 8) (e := 8) ?s1 ?s2 ?s3 ?s4 ?_); (case s1 => (lsm_bools)); (case s2 => (lsm_bools)); (case s3 => (first | decide | omega)); (case s4 => (first | decide | omega))) | ((with_reducible refine' q_getL ?s1 ?s2 ?_); (case s1 => (ke_read)); (case s2 => (kqd_all))) | ((with_reducible refine' s_sum ?s1 ?_); (case s1 => (ke_read))) | ((with_reducible refine' s_lstRg ?s1 ?_); (case s1 => (tb_start))) | ((with_reducible refine' s_tupRg ?s1 ?_); (case s1 => (tb_start))) | ((with_reducible refine' s_rng3 ?s1 ?_); (case s1 => (assumption))) | ((with_reducible refine' s_zip_tup ?_)) | ((with_reducible refine' s_zip_ref ?s1 ?s2 ?_); (case s1 => (ke_read)); (case s2 => (ke_read))) | ((with_reducible refine' s_rev_tup ?_)) | ((with_reducible refine' s_rev_ref ?s1 ?_); (case s1 => (ke_read))) | ((with_reducible refine' q_push0 ?s1 ?_); (case s1 => (tb_start))) | ((with_reducible refine' q_push ?s1 ?s2 ?_); (case s1 => (ked_read)); (case s2 => (tb_start))) | ((with_reducible refine' s_rep ?s1 ?_); (case s1 => (ked_read))) | ((with_reducible refine' And.intro ?s1 ?_); (case s1 => (tb_start))))
local macro_rules | `(tactic| kbo_bools) => `(tactic| first | with_reducible refine i_d (fun _ => ?_) (fun _ => ?_) | with_reducible refine i_n (fun _ => ?_) (fun _ => ?_))
local macro_rules | `(tactic| keq_rows) => `(tactic| ((conv => whnf); repeat (tb_rel; (conv => whnf))))
local macro_rules | `(tactic| k_upd) => `(tactic| (keq_rows; try (kbo_bools <;> k_upd)))
local macro_rules | `(tactic| kat_tups) => `(tactic| (simp only [startL, List.map_cons, List.map_nil, List.length_cons, List.length_nil, Nat.zero_add, Nat.reduceAdd, Nat.reduceSub, List.reduceReplicate, List.cons_append, List.nil_append]; keq_rows))
local macro_rules | `(tactic| k_updF) => `(tactic| first | assumption | exact Keep.refl _ _ | exact Keep.app _ _ _ | ((with_reducible refine' Keep.app_r ?s1); (case s1 => (k_updF))) | ((with_reducible refine' Keep.set_in ?s1 ?s2); (case s1 => ((simp only [List.mem_cons, true_or, or_true]))); (case s2 => (k_updF))) | ((with_reducible refine' Keep.set_new ?s1 ?s2); (case s1 => (first | omega | (simp only [List.length_append, List.length_cons, List.length_nil, List.length_set] at * <;> omega))); (case s2 => (k_updF))) | exact Ext.keep (by assumption) | ((with_reducible refine' Keep.trans ?a (by assumption)); (case a => (k_updF))) | ((with_reducible refine' Keep.trans ?a (Ext.keep (by assumption))); (case a => (k_updF))))
local macro_rules | `(tactic| lsm_bools) => `(tactic| first | assumption | exact Pl.int _ _ | exact Pn.int _ _ | ((with_reducible refine' Pl.str _ _ ?s1); (case s1 => (first | assumption | decide +kernel))) | ((with_reducible refine' Pn.str _ _ ?s1); (case s1 => (first | assumption | decide +kernel))) | exact Pn.non _ | exact Pl.non _ | exact Pl.bl _ _ | exact Pns.nil _ | exact Pls.nil _ | ((with_reducible refine' Pls.cons ?s1 ?s2); (case s1 => (lsm_bools)); (case s2 => (lsm_bools))) | ((with_reducible refine' Pns.cons ?s1 ?s2); (case s1 => (lsm_bools)); (case s2 => (lsm_bools))) | ((with_reducible refine' Pl.tup ?s1 ?s2); (case s1 => (first | omega | (simp only [List.length_append, List.length_cons, List.length_nil, List.length_map, List.length_set, List.length_take, List.length_drop, List.length_dropLast] <;> omega))); (case s2 => (lsm_bools))) | ((with_reducible refine' Pn.tup ?s1 ?s2); (case s1 => (first | omega | (simp only [List.length_append, List.length_cons, List.length_nil, List.length_map, List.length_set, List.length_take, List.length_drop, List.length_dropLast] <;> omega))); (case s2 => (lsm_bools))))
/-! the belt: here, how many misreads to each gate; doors, to each door -/
abbrev Bst := List Int × List Int
def less (told number : Int) : Int := if told < 0 then number else if number < told then number else told
def step1 (tag : Int) (k j : Nat) (goal : Int) (st : Bst) : Bst :=
  let number := st.1.getD k 0 + if (j : Int) = tag then 0 else 1
  if goal < 0 then (st.1, st.2.set (-1 - goal).toNat (less (st.2.getD (-1 - goal).toNat 0) number))
  else (st.1.set goal.toNat (less (st.1.getD goal.toNat 0) number), st.2)
def gateF (tag : Int) (k : Nat) : Nat → List Int → Bst → Bst
  | _, [], st => st
  | j, goal :: r, st => gateF tag k (j + 1) r (step1 tag k j goal st)
def passF (tag shut : Int) : Nat → List (List Int) → Bst → Bst
  | _, [], st => st
  | k, row :: r, st => passF tag shut (k + 1) r (if (k : Int) = shut ∨ st.1.getD k 0 < 0 then st else gateF tag k 0 row st)
def start (v : Int) (n : Nat) : Bst := (v :: List.replicate (n - 1) (-1), List.replicate 10 (-1))
def D (gates : List (List Int)) (tag shut : Int) : List Int := (passF tag shut 0 gates (start 0 gates.length)).2
structure Valid (n tags : Nat) (gates : List (List Int)) : Prop where
  len : gates.length = n
  pos : 1 ≤ n
  small : n ≤ 20
  tpos : 1 ≤ tags
  tsmall : tags ≤ 10
  row : ∀ row ∈ gates, row.length = tags ∧ ∀ to ∈ row, -10 ≤ to ∧ to < n
theorem step1_len {tag : Int} {k j : Nat} {goal : Int} {st : Bst} : (step1 tag k j goal st).1.length = st.1.length ∧ (step1 tag k j goal st).2.length = st.2.length := by
  unfold step1
  dsimp only
  by_cases h : goal < 0
  · rw [if_pos h]; exact ⟨rfl, List.length_set⟩
  · rw [if_neg h]; exact ⟨List.length_set, rfl⟩
theorem gateF_len {tag : Int} {k : Nat} : ∀ {r : List Int} {j : Nat} {st : Bst}, (gateF tag k j r st).1.length = st.1.length ∧ (gateF tag k j r st).2.length = st.2.length
  | [], _, _ => ⟨rfl, rfl⟩
  | g :: r, j, st => by
    obtain ⟨a, b⟩ := gateF_len (tag := tag) (k := k) (r := r) (j := j + 1) (st := step1 tag k j g st)
    obtain ⟨c, d⟩ := step1_len (tag := tag) (k := k) (j := j) (goal := g) (st := st)
    exact ⟨a.trans c, b.trans d⟩
theorem passF_len {tag shut : Int} : ∀ {r : List (List Int)} {k : Nat} {st : Bst}, (passF tag shut k r st).1.length = st.1.length ∧ (passF tag shut k r st).2.length = st.2.length
  | [], _, _ => ⟨rfl, rfl⟩
  | g :: r, k, st => by
    rw [passF]
    obtain ⟨a, b⟩ := passF_len (tag := tag) (shut := shut) (r := r) (k := k + 1) (st := if (k : Int) = shut ∨ st.1.getD k 0 < 0 then st else gateF tag k 0 g st)
    rw [a, b]
    split
    · exact ⟨rfl, rfl⟩
    · exact gateF_len
theorem D_len (gates : List (List Int)) (tag shut : Int) : (D gates tag shut).length = 10 := by
  unfold D
  rw [passF_len.2]; rfl
theorem drop_at {α : Type} {xs : List α} {i : Nat} {a : α} (h : xs[i]? = some a) : xs.drop i = a :: xs.drop (i + 1) := by
  obtain ⟨hi, e2⟩ := List.getElem?_eq_some_iff.mp h
  rw [List.drop_eq_getElem_cons hi, e2]
@[irreducible] def sp_lesser_told : ZC := fun ws S K => ∃ a b, ws = [.int a, .int b] ∧ ∀ S', Ext S S' → K (.int (less a b)) S'
theorem c_lesser_told {a b : Int} {S : Store} {K : WK} (h : ∀ S', Ext S S' → K (.int (less a b)) S') : sp_lesser_told [.int a, .int b] S K := by unfold sp_lesser_told; exact ⟨a, b, rfl, h⟩
theorem u_lesser_told (ws : List W) (S : Store) (K : WK) (h : sp_lesser_told ws S K) (hl : ws.length = 2) : t_lesser_told (EndK K) (startL 2 ws) S := by
  unfold sp_lesser_told at h
  obtain ⟨a, b, rfl, h⟩ := h
  have := h S (Keep.refl _ _)
  unfold less at this
  kat_tups
  k_upd
  · rw [if_pos (by assumption)] at this
    exact this
  · rw [if_neg (by assumption)] at this
    exact this
theorem times_m1 (k : Int) : times [W.int (-1)] k = (List.replicate k.toNat (-1)).map W.int := by
  unfold times
  induction k.toNat with
  | zero => rfl
  | succ k ih => rw [List.replicate_succ, List.flatten_cons, ih]; rfl
@[irreducible] def sp_misreads_past : ZC := fun ws S K => ∃ n tags gates tag shut, ws = [wsW gates, .int tag, .int shut] ∧ Valid n tags gates ∧ ∀ S', Ext S S' → K (wW (D gates tag shut)) S'
theorem c_misreads_past {n tags : Nat} {gates : List (List Int)} {tag shut : Int} {S : Store} {K : WK} (h1 : Valid n tags gates) (h : ∀ S', Ext S S' → K (wW (D gates tag shut)) S') : sp_misreads_past [wsW gates, .int tag, .int shut] S K := by unfold sp_misreads_past; exact ⟨n, tags, gates, tag, shut, rfl, h1, h⟩
theorem u_misreads_past (ws : List W) (S : Store) (K : WK) (h : sp_misreads_past ws S K) (hl : ws.length = 3) : t_misreads_past sp_lesser_told (EndK K) (startL 10 ws) S := by
  unfold sp_misreads_past at h
  obtain ⟨n, tags, gates, tag, shut, rfl, hv, h⟩ := h
  have hgl : (gates.map wW).length = n := by rw [List.length_map]; exact hv.len
  have hn1 := hv.pos
  have hn2 := hv.small
  have hd : times [W.int (-1)] 10 = (List.replicate 10 (-1)).map W.int := times_m1 10
  have hh : [W.int 0] ++ times [W.int (-1)] (((gates.map wW).length : Int) - 1) = ((0 : Int) :: List.replicate (n - 1) (-1)).map W.int := by
    rw [times_m1, hgl, show ((n : Int) - 1).toNat = n - 1 by omega]; rfl
  have hl9 : ([W.int 0] : List W).length + (times [W.int (-1)] (((gates.map wW).length : Int) - 1)).length ≤ 100 := by
    rw [times_m1, hgl, List.length_map, List.length_replicate]; simp; omega
  have hl8 : (times [W.int (-1)] (((gates.map wW).length : Int) - 1)).length ≤ 90 := by
    rw [times_m1, hgl, List.length_map, List.length_replicate]; omega
  have hgn := hv.len
  kat_tups
  refine forI (fun i L S' => ∃ (p q : Nat) (st : Bst) (x5 x6 x7 x8 x9 : Option W), L = [some (wsW gates), some (.int tag), some (.int shut), some (.ref p), some (.ref q), x5, x6, x7, x8, x9] ∧ p ≠ q ∧ S.length ≤ p ∧ S.length ≤ q ∧ S'[p]? = some (.lst (st.2.map W.int)) ∧ S'[q]? = some (.lst (st.1.map W.int)) ∧ st.1.length = n ∧ st.2.length = 10 ∧ passF tag shut i (gates.drop i) st = passF tag shut 0 gates (start 0 n) ∧ Ext S S')
    ⟨_, _, start 0 n, _, _, _, _, _, rfl, by simp, by simp, by simp, ?_, ?_, by simp [start]; omega, by simp [start], rfl, ?_⟩ (fun _ _ _ _ => trivial) ?_ ?_
  · rw [start, ← hd]
    exact app_l (app_l (app_l (app_l ((app_get0 _ _).trans rfl))))
  · rw [start, ← hh]
    exact (app_get0 _ _).trans rfl
  · exact (((((Keep.app _ _ _).trans (Keep.app _ _ _)).trans (Keep.app _ _ _)).trans (Keep.app _ _ _)).trans (Keep.app _ _ _)).trans (Keep.app _ _ _)
  · rintro i w L S2 hw ⟨p, q, st, x5, x6, x7, x8, x9, rfl, hpq, hp, hq, h3, h4, l1, l2, hf, k2⟩
    obtain ⟨x, hx, rfl⟩ := enumW_get.mp hw
    obtain ⟨row, hr, rfl⟩ := row_at hx
    have hi := (List.getElem?_eq_some_iff.mp hr).1
    obtain ⟨hrl, hrb⟩ := hv.row row (List.mem_of_getElem? hr)
    have hat := atI_nat (xs := st.1) (i := i) (by omega)
    rw [drop_at hr, passF] at hf
    have skip : ((i : Int) = shut ∨ st.1.getD i 0 < 0) → passF tag shut (i + 1) (gates.drop (i + 1)) st = passF tag shut 0 gates (start 0 n) := fun z => by rw [if_pos z] at hf; exact hf
    by_cases hs : (i : Int) = shut
    · keq_rows
      exact ⟨p, q, st, _, _, _, _, _, rfl, hpq, hp, hq, h3, h4, l1, l2, skip (.inl hs), k2⟩
    by_cases hneg : st.1.getD i 0 < 0
    · keq_rows
      exact ⟨p, q, st, _, _, _, _, _, rfl, hpq, hp, hq, h3, h4, l1, l2, skip (.inr hneg), k2⟩
    rw [if_neg (by rintro (z | z) <;> contradiction)] at hf
    keq_rows
    refine forI (fun j L S' => ∃ (st2 : Bst) (x7 x8 x9 : Option W), L = [some (wsW gates), some (.int tag), some (.int shut), some (.ref p), some (.ref q), some (.int (i : Nat)), some (wW row), x7, x8, x9] ∧ S'[p]? = some (.lst (st2.2.map W.int)) ∧ S'[q]? = some (.lst (st2.1.map W.int)) ∧ st2.1.length = n ∧ st2.2.length = 10 ∧ gateF tag i j (row.drop j) st2 = gateF tag i 0 row st ∧ Ext S S')
      ⟨st, _, _, _, rfl, h3, h4, l1, l2, rfl, k2⟩ (fun _ _ _ _ => trivial) ?_ ?_
    · rintro j w L S3 hw ⟨st2, x7, x8, x9, rfl, h3', h4', l1', l2', hg, k3⟩
      obtain ⟨x, hx, rfl⟩ := enumW_get.mp hw
      obtain ⟨hj, rfl⟩ := int_at hx
      have hge : row[j]? = some (row.getD j 0) := by rw [List.getD_eq_getElem?_getD, List.getElem?_eq_getElem hj]; rfl
      have hgb := hrb _ (List.mem_of_getElem? hge)
      rw [drop_at hge, gateF] at hg
      generalize row.getD j 0 = goal at *
      have hat2 := atI_nat (xs := st2.1) (i := i) (by omega)
      have hln := lt_of_get h3'
      have hlq := lt_of_get h4'
      by_cases hgn : goal < 0
      · have hdoor := atI_nat (xs := st2.2) (i := (-1 - goal).toNat) (by omega)
        rw [show (((-1 - goal).toNat : Nat) : Int) = -1 - goal by omega] at hdoor
        have hix : ∀ vs : List Int, vs.length = 10 → ixN (vs.map W.int).length (-1 - goal) = some (-1 - goal).toNat := fun vs hvs => by
          unfold ixN
          rw [if_pos (by omega), if_pos (by rw [List.length_map]; omega)]
        have hix2 := hix st2.2 l2'
        have hst : step1 tag i j goal st2 = (st2.1, st2.2.set (-1 - goal).toNat (less (st2.2.getD (-1 - goal).toNat 0) (st2.1.getD i 0 + if (j : Int) = tag then 0 else 1))) := by
          unfold step1
          exact if_pos hgn
        by_cases hjt : (j : Int) = tag
        · keq_rows
          refine c_lesser_told fun S4 k4 => ?_
          have h34 := k4.get h3'
          keq_rows
          refine ⟨step1 tag i j goal st2, _, _, _, rfl, ?_, ?_, ?_, ?_, hg, Keep.set_new hp (k3.trans k4)⟩
          · rw [hst, if_pos hjt, List.map_set]
            exact List.getElem?_set_self (lt_of_get h34)
          · rw [hst, List.getElem?_set_ne hpq]
            exact k4.get h4'
          · rw [hst]; exact l1'
          · rw [hst, List.length_set]; exact l2'
        · keq_rows
          refine c_lesser_told fun S4 k4 => ?_
          have h34 := k4.get h3'
          keq_rows
          refine ⟨step1 tag i j goal st2, _, _, _, rfl, ?_, ?_, ?_, ?_, hg, Keep.set_new hp (k3.trans k4)⟩
          · rw [hst, if_neg hjt, List.map_set]
            exact List.getElem?_set_self (lt_of_get h34)
          · rw [hst, List.getElem?_set_ne hpq]
            exact k4.get h4'
          · rw [hst]; exact l1'
          · rw [hst, List.length_set]; exact l2'
      · have hgate := atI_nat (xs := st2.1) (i := goal.toNat) (by omega)
        rw [show ((goal.toNat : Nat) : Int) = goal by omega] at hgate
        have hix2 : ixN (st2.1.map W.int).length goal = some goal.toNat := by
          unfold ixN
          rw [if_pos (by omega), if_pos (by rw [List.length_map]; omega)]
        have hst : step1 tag i j goal st2 = (st2.1.set goal.toNat (less (st2.1.getD goal.toNat 0) (st2.1.getD i 0 + if (j : Int) = tag then 0 else 1)), st2.2) := by
          unfold step1
          exact if_neg hgn
        by_cases hjt : (j : Int) = tag
        · keq_rows
          refine c_lesser_told fun S4 k4 => ?_
          have h44 := k4.get h4'
          keq_rows
          refine ⟨step1 tag i j goal st2, _, _, _, rfl, ?_, ?_, ?_, ?_, hg, Keep.set_new hq (k3.trans k4)⟩
          · rw [hst, List.getElem?_set_ne (Ne.symm hpq)]
            exact k4.get h3'
          · rw [hst, if_pos hjt, List.map_set]
            exact List.getElem?_set_self (lt_of_get h44)
          · rw [hst, List.length_set]; exact l1'
          · rw [hst]; exact l2'
        · keq_rows
          refine c_lesser_told fun S4 k4 => ?_
          have h44 := k4.get h4'
          keq_rows
          refine ⟨step1 tag i j goal st2, _, _, _, rfl, ?_, ?_, ?_, ?_, hg, Keep.set_new hq (k3.trans k4)⟩
          · rw [hst, List.getElem?_set_ne (Ne.symm hpq)]
            exact k4.get h3'
          · rw [hst, if_neg hjt, List.map_set]
            exact List.getElem?_set_self (lt_of_get h44)
          · rw [hst, List.length_set]; exact l1'
          · rw [hst]; exact l2'
    · rintro L S3 ⟨st2, x7, x8, x9, rfl, h3', h4', l1', l2', hg, k3⟩
      rw [enumW_length, List.length_map, List.drop_length] at hg
      replace hg : st2 = gateF tag i 0 row st := hg
      keq_rows
      exact ⟨p, q, st2, _, _, _, _, _, rfl, hpq, hp, hq, h3', h4', l1', l2', by rw [hg]; exact hf, k3⟩
  · rintro L S2 ⟨p, q, st, x5, x6, x7, x8, x9, rfl, hpq, hp, hq, h3, h4, l1, l2, hf, k2⟩
    rw [enumW_length, List.length_map, List.drop_length] at hf
    replace hf : st = passF tag shut 0 gates (start 0 n) := hf
    keq_rows
    have := h _ k2
    rw [D, hgn, ← hf] at this
    exact this
end L83

set_option maxHeartbeats 4000000
namespace L83
open PySem PySem.Spec PyProof.Rows L2 Z FS
local macro_rules | `(tactic| tb_start) => `(tactic| first | assumption | exact True.intro | exact ⟨_, _, rfl, by ke_read⟩ | ((with_reducible refine' MulOk.r ?s1 ?s2); (case s1 => (decide)); (case s2 => (decide))) | ((with_reducible refine' DivOk.any ?s1); (case s1 => (assumption))) | ((with_reducible refine' DivOk.small ?s1 ?s2); (case s1 => (decide)); (case s2 => (decide))) | ((with_reducible refine' MulOk.r ?s1 ?s2); (case s1 => (omega)); (case s2 => (omega))) | ((with_reducible refine' MulOk.l ?s1 ?s2); (case s1 => (omega)); (case s2 => (omega))) | ((with_reducible refine' DivOk.small ?s1 ?s2); (case s1 => (omega)); (case s2 => (omega))) | ((with_reducible refine' PowOk.lit ?s1 ?s2 ?s3); (case s1 => (decide)); (case s2 => (decide)); (case s3 => (decide))) | omega | ((with_reducible refine' s_sz ?s1); (case s1 => (first | omega | (simp only [List.length_append, List.length_cons, List.length_nil, List.length_map, List.length_set, List.length_take, List.length_drop, List.length_dropLast] <;> omega)))) | ((with_reducible refine' s_szl ?s1); (case s1 => (first | omega | (simp only [List.length_append, List.length_cons, List.length_nil, List.length_map, List.length_set, List.length_take, List.length_drop, List.length_dropLast] <;> omega)))) | ke_read | ked_read | decide)
local macro_rules | `(tactic| ke_reads) => `(tactic| first | assumption | exact Ne.symm (by assumption) | omega | (simp only [List.length_append, List.length_cons, List.length_nil, List.length_set] at * <;> omega))
local macro_rules | `(tactic| ked_reads) => `(tactic| first | assumption | ((with_reducible refine' lt_of_get ?s1); (case s1 => (ked_read))))
local macro_rules | `(tactic| ked_read) => `(tactic| first | assumption | ((with_reducible refine' List.getElem?_set_self ?s1); (case s1 => (ked_reads))) | ((with_reducible refine' set_ne' ?s1 ?s2); (case s1 => (ke_reads)); (case s2 => (ked_read))) | exact (app_get0 _ _).trans rfl | exact (app_get _ _ _).trans rfl | ((with_reducible refine' app_l ?s1); (case s1 => (ked_read))))
local macro_rules | `(tactic| ke_read) => `(tactic| first | assumption | (apply getL_of; assumption) | ((with_reducible refine' getL_set_self ?s1); (case s1 => (ked_reads))) | exact getL_app00 _ _ _ | exact getL_app1 _ _ _ _ | ((with_reducible refine' getL_set_ne' ?s1 ?s2); (case s1 => (ke_reads)); (case s2 => (ke_read))) | ((with_reducible refine' getL_app_l ?s1); (case s1 => (ke_read))) | exact (getL_app _ _ _).trans rfl)
local macro_rules | `(tactic| kqd_all) => `(tactic| first | assumption | (rw [atI_m1]; first | with_unfolding_all rfl | assumption) | (rw [atI_lit]; first | with_unfolding_all rfl | assumption) | (rw [atI_cast]; assumption) | exact atI_ints (by omega) (by simp only [List.length_map] at *; omega))
local macro_rules | `(tactic| kct_strs) => `(tactic| first | assumption | (rw [ixN_lit, if_pos (by simp)]; done))
local macro_rules | `(tactic| kp_flats) => `(tactic| first | with_reducible refine q_let0 ?_ | with_reducible refine q_let1 ?_ | with_reducible refine q_let2 ?_ | with_reducible refine q_let3 ?_ | with_reducible refine q_let4 ?_ | with_reducible refine q_let5 ?_ | with_reducible refine q_let6 ?_ | with_reducible refine q_let7 ?_ | with_reducible refine q_let8 ?_ | with_reducible refine q_let9 ?_ | with_reducible refine q_let10 ?_ | with_reducible refine q_let11 ?_ | with_reducible refine q_let12 ?_ | with_reducible refine q_let13 ?_ | with_reducible refine q_let14 ?_ | with_reducible refine q_let15 ?_ | with_reducible refine q_let16 ?_ | with_reducible refine q_let17 ?_ | with_reducible refine q_let18 ?_ | with_reducible refine q_let19 ?_ | with_reducible refine q_let20 ?_ | with_reducible refine q_let21 ?_ | with_reducible refine q_let22 ?_ | with_reducible refine q_let23 ?_ | with_reducible refine q_let24 ?_ | with_reducible refine q_let25 ?_ | with_reducible refine q_let26 ?_ | with_reducible refine q_let27 ?_ | with_reducible refine q_let28 ?_ | with_reducible refine q_let29 ?_ | with_reducible refine q_let30 ?_ | with_reducible refine q_let31 ?_ | with_reducible refine q_let32 ?_ | with_reducible refine q_let33 ?_ | with_reducible refine q_let34 ?_ | with_reducible refine q_let35 ?_ | with_reducible refine q_let36 ?_ | with_reducible refine q_let37 ?_ | with_reducible refine q_let38 ?_ | with_reducible refine q_let39 ?_)
local macro_rules | `(tactic| tb_rel) => `(tactic| first | ((with_reducible show qLet _ _ _ _); kp_flats) | ((with_reducible refine' i_dt ?s1 ?_); (case s1 => (first | assumption | rfl))) | ((with_reducible refine' i_df ?s1 ?_); (case s1 => (assumption))) | ((with_reducible refine' i_nf ?s1 ?_); (case s1 => (first | assumption | rfl))) | ((with_reducible refine' i_nt ?s1 ?_); (case s1 => (assumption))) | ((with_reducible refine' i_t ?s1 ?_); (case s1 => (with_unfolding_all rfl))) | ((with_reducible refine' i_f ?s1 ?_); (case s1 => (with_unfolding_all rfl))) | ((with_reducible refine' q_ix_tup ?s1 ?_); (case s1 => (kqd_all))) | ((with_reducible refine' q_ix_ref ?s1 ?s2 ?_); (case s1 => (ke_read)); (case s2 => (kqd_all))) | ((with_reducible refine' q_eq_int ?_)) | ((with_reducible refine' q_ne_int ?_)) | ((with_reducible refine' q_eq_str ?s1 ?s2 ?_); (case s1 => (first | assumption | decide +kernel)); (case s2 => (first | assumption | decide +kernel))) | ((with_reducible refine' q_ne_str ?s1 ?s2 ?_); (case s1 => (first | assumption | decide +kernel)); (case s2 => (first | assumption | decide +kernel))) | ((with_reducible refine' q_len_tup ?_)) | ((with_reducible refine' q_len_ref ?s1 ?_); (case s1 => (ke_read))) | ((with_reducible refine' s_isml ?s1 ?_); (case s1 => (ke_read))) | ((with_reducible refine' q_append2 ?s1 ?s2 ?_); (case s1 => (ked_reads)); (case s2 => (tb_start))) | ((with_reducible refine' q_append0 ?s1 ?_); (case s1 => (tb_start))) | ((with_reducible refine' q_append1 ?s1 ?_); (case s1 => (tb_start))) | ((with_reducible refine' q_append ?s1 ?s2 ?_); (case s1 => (ked_read)); (case s2 => (tb_start))) | ((with_reducible refine' q_cat ?s1 ?s2 ?s3 ?_); (case s1 => (ked_read)); (case s2 => (ked_read)); (case s3 => (tb_start))) | ((with_reducible refine' q_pop0 ?s1 ?_); (case s1 => (ked_read))) | ((with_reducible refine' q_setL2 ?s1 ?s2 ?_); (case s1 => (ked_reads)); (case s2 => (kct_strs))) | ((with_reducible refine' q_setL ?s1 ?s2 ?_); (case s1 => (ked_read)); (case s2 => (kct_strs))) | ((with_reducible refine' q_tup_tup ?_)) | ((with_reducible refine' q_tup_ref ?s1 ?_); (case s1 => (ke_read))) | ((with_reducible refine' q_list_tup ?_)) | ((with_reducible refine' q_list_ref ?s1 ?_); (case s1 => (ke_read))) | ((with_reducible refine' q_sl_tupE ?s1 ?_); (case s1 => (assumption))) | ((with_reducible refine' q_sl_refE ?s1 ?s2 ?_); (case s1 => (ke_read)); (case s2 => (assumption))) | ((with_reducible refine' q_sl_tup ?_)) | ((with_reducible refine' q_sl_ref ?s1 ?_); (case s1 => (ke_read))) | ((with_reducible refine' s_enumI_tup ?_)) | ((with_reducible refine' s_enumI_ref ?s1 ?_); (case s1 => (ke_read))) | ((with_reducible refine' s_seqI_tup ?_)) | ((with_reducible refine' s_seqI_ref ?s1 ?_); (case s1 => (ke_read))) | ((with_reducible refine' q_eq_pn (d := 8) (e := 8) ?s1 ?s2 ?s3 ?s4 ?_); (case s1 => (lsm_bools)); (case s2 => (lsm_bools)); (case s3 => (first | decide | omega)); (case s4 => (first | decide | omega))) | ((with_reducible refine' q_ne_pn (d := 8) (e := 8) ?s1 ?s2 ?s3 ?s4 ?_); (case s1 => (lsm_bools)); (case s2 => (lsm_bools)); (case s3 => (first | decide | omega)); (case s4 => (first | decide | omega))) | ((with_reducible refine' q_eq_lpn (d := 8) (e := 8) ?s1 ?s2 ?s3 ?s4 ?s5 ?s6 ?_); (case s1 => (ke_read)); (case s2 => (ke_read)); (case s3 => (lsm_bools)); (case s4 => (lsm_bools)); (case s5 => (first | decide | omega)); (case s6 => (first | decide | omega))) | ((with_reducible refine' q_ne_lpn (d := 8) (e := 8) ?s1 ?s2 ?s3 ?s4 ?s5 ?s6 ?_); (case s1 => (ke_read)); (case s2 => (ke_read)); (case s3 => (lsm_bools)); (case s4 => (lsm_bools)); (case s5 => (first | decide | omega)); (case s6 => (first | decide | omega))) | ((with_reducible refine' q_is_non ?_)) | ((with_reducible refine' q_isnot_non ?_)) | ((with_reducible refine' q_eq_bl ?_)) | ((with_reducible refine' q_ne_bl ?_)) | ((with_reducible refine' q_isi ?s1 ?s2 ?_); (case s1 => (with_unfolding_all rfl)); (case s2 => (with_unfolding_all rfl))) | ((with_reducible refine' q_in_l (d := 8) (e := 8) ?s1 ?s2 ?s3 ?s4 ?s5 ?_); (case s1 => (ke_read)); (case s2 => (lsm_bools)); (case s3 => (lsm_bools)); (case s4 => (first | decide | omega)); (case s5 => (first | decide | omega))) | ((with_reducible refine' q_in_t (d := 8) (e := 8) ?s1 ?s2 ?s3 ?s4 ?_); (case s1 => (lsm_bools)); (case s2 => (lsm_bools)); (case s3 => (first | decide | omega)); (case s4 => (first | decide | omega))) | ((with_reducible refine' q_notin_l (d := 8) (e := 8) ?s1 ?s2 ?s3 ?s4 ?s5 ?_); (case s1 => (ke_read)); (case s2 => (lsm_bools)); (case s3 => (lsm_bools)); (case s4 => (first | decide | omega)); (case s5 => (first | decide | omega))) | ((with_reducible refine' q_notin_t (d := 8) (e := 8) ?s1 ?s2 ?s3 ?s4 ?_); (case s1 => (lsm_bools)); (case s2 => (lsm_bools)); (case s3 => (first | decide | omega)); (case s4 => (first | decide | omega))) | ((with_reducible refine' q_getL ?s1 ?s2 ?_); (case s1 => (ke_read)); (case s2 => (kqd_all))) | ((with_reducible refine' s_sum ?s1 ?_); (case s1 => (ke_read))) | ((with_reducible refine' s_lstRg ?s1 ?_); (case s1 => (tb_start))) | ((with_reducible refine' s_tupRg ?s1 ?_); (case s1 => (tb_start))) | ((with_reducible refine' s_rng3 ?s1 ?_); (case s1 => (assumption))) | ((with_reducible refine' s_zip_tup ?_)) | ((with_reducible refine' s_zip_ref ?s1 ?s2 ?_); (case s1 => (ke_read)); (case s2 => (ke_read))) | ((with_reducible refine' s_rev_tup ?_)) | ((with_reducible refine' s_rev_ref ?s1 ?_); (case s1 => (ke_read))) | ((with_reducible refine' q_push0 ?s1 ?_); (case s1 => (tb_start))) | ((with_reducible refine' q_push ?s1 ?s2 ?_); (case s1 => (ked_read)); (case s2 => (tb_start))) | ((with_reducible refine' s_rep ?s1 ?_); (case s1 => (ked_read))) | ((with_reducible refine' And.intro ?s1 ?_); (case s1 => (tb_start))))
local macro_rules | `(tactic| kbo_bools) => `(tactic| first | with_reducible refine i_d (fun _ => ?_) (fun _ => ?_) | with_reducible refine i_n (fun _ => ?_) (fun _ => ?_))
local macro_rules | `(tactic| keq_rows) => `(tactic| ((conv => whnf); repeat (tb_rel; (conv => whnf))))
local macro_rules | `(tactic| k_upd) => `(tactic| (keq_rows; try (kbo_bools <;> k_upd)))
local macro_rules | `(tactic| kat_tups) => `(tactic| (simp only [startL, List.map_cons, List.map_nil, List.length_cons, List.length_nil, Nat.zero_add, Nat.reduceAdd, Nat.reduceSub, List.reduceReplicate, List.cons_append, List.nil_append]; keq_rows))
local macro_rules | `(tactic| k_updF) => `(tactic| first | assumption | exact Keep.refl _ _ | exact Keep.app _ _ _ | ((with_reducible refine' Keep.app_r ?s1); (case s1 => (k_updF))) | ((with_reducible refine' Keep.set_in ?s1 ?s2); (case s1 => ((simp only [List.mem_cons, true_or, or_true]))); (case s2 => (k_updF))) | ((with_reducible refine' Keep.set_new ?s1 ?s2); (case s1 => (first | omega | (simp only [List.length_append, List.length_cons, List.length_nil, List.length_set] at * <;> omega))); (case s2 => (k_updF))) | exact Ext.keep (by assumption) | ((with_reducible refine' Keep.trans ?a (by assumption)); (case a => (k_updF))) | ((with_reducible refine' Keep.trans ?a (Ext.keep (by assumption))); (case a => (k_updF))))
local macro_rules | `(tactic| lsm_bools) => `(tactic| first | assumption | exact Pl.int _ _ | exact Pn.int _ _ | ((with_reducible refine' Pl.str _ _ ?s1); (case s1 => (first | assumption | decide +kernel))) | ((with_reducible refine' Pn.str _ _ ?s1); (case s1 => (first | assumption | decide +kernel))) | exact Pn.non _ | exact Pl.non _ | exact Pl.bl _ _ | exact Pns.nil _ | exact Pls.nil _ | ((with_reducible refine' Pls.cons ?s1 ?s2); (case s1 => (lsm_bools)); (case s2 => (lsm_bools))) | ((with_reducible refine' Pns.cons ?s1 ?s2); (case s1 => (lsm_bools)); (case s2 => (lsm_bools))) | ((with_reducible refine' Pl.tup ?s1 ?s2); (case s1 => (first | omega | (simp only [List.length_append, List.length_cons, List.length_nil, List.length_map, List.length_set, List.length_take, List.length_drop, List.length_dropLast] <;> omega))); (case s2 => (lsm_bools))) | ((with_reducible refine' Pn.tup ?s1 ?s2); (case s1 => (first | omega | (simp only [List.length_append, List.length_cons, List.length_nil, List.length_map, List.length_set, List.length_take, List.length_drop, List.length_dropLast] <;> omega))); (case s2 => (lsm_bools))))
@[irreducible] def sp_misreads_to : ZC := fun ws S K => ∃ n tags gates tag, ws = [wsW gates, .int tag] ∧ Valid n tags gates ∧ ∀ S', Ext S S' → K (wW (D gates tag (-1))) S'
theorem c_misreads_to {n tags : Nat} {gates : List (List Int)} {tag : Int} {S : Store} {K : WK} (h1 : Valid n tags gates) (h : ∀ S', Ext S S' → K (wW (D gates tag (-1))) S') : sp_misreads_to [wsW gates, .int tag] S K := by unfold sp_misreads_to; exact ⟨n, tags, gates, tag, rfl, h1, h⟩
theorem u_misreads_to (ws : List W) (S : Store) (K : WK) (h : sp_misreads_to ws S K) (hl : ws.length = 2) : t_misreads_to sp_misreads_past (EndK K) (startL 2 ws) S := by
  unfold sp_misreads_to at h
  obtain ⟨n, tags, gates, tag, rfl, hv, h⟩ := h
  kat_tups
  refine c_misreads_past hv fun S1 k1 => ?_
  keq_rows
  exact h S1 k1
def comes (gates : List (List Int)) (tag m : Int) : List Nat := (List.range 10).filter fun d => decide (0 ≤ (D gates tag (-1)).getD d 0 ∧ (D gates tag (-1)).getD d 0 ≤ m)
@[irreducible] def sp_may_come : ZC := fun ws S K => ∃ n tags gates tag m, ws = [wsW gates, .int tag, .int m] ∧ Valid n tags gates ∧ ∀ S', Ext S S' → K (wW (natsI (comes gates tag m))) S'
theorem c_may_come {n tags : Nat} {gates : List (List Int)} {tag m : Int} {S : Store} {K : WK} (h1 : Valid n tags gates) (h : ∀ S', Ext S S' → K (wW (natsI (comes gates tag m))) S') : sp_may_come [wsW gates, .int tag, .int m] S K := by unfold sp_may_come; exact ⟨n, tags, gates, tag, m, rfl, h1, h⟩
theorem u_may_come (ws : List W) (S : Store) (K : WK) (h : sp_may_come ws S K) (hl : ws.length = 3) : t_may_come sp_misreads_to (EndK K) (startL 5 ws) S := by
  unfold sp_may_come at h
  obtain ⟨n, tags, gates, tag, m, rfl, hv, h⟩ := h
  kat_tups
  refine c_misreads_to hv fun S1 k1 => ?_
  keq_rows
  refine glTupX (fun (i : Nat) => W.int (i : Int)) (List.range 10) (rangeW_map 10) (fun d => if decide (0 ≤ (D gates tag (-1)).getD d 0 ∧ (D gates tag (-1)).getD d 0 ≤ m) then some (.int (d : Int)) else none) (fun _ _ => trivial) (s_sz (by rw [List.length_range]; omega)) ?_ ?_
  · intro i d S2 Kt Kf hd k2 hK hK'
    obtain ⟨rfl, hi⟩ := range_at hd
    have hat := atI_nat (xs := D gates tag (-1)) (i := d) (by rw [D_len]; omega)
    by_cases h0 : 0 ≤ (D gates tag (-1)).getD d 0
    · by_cases h1 : (D gates tag (-1)).getD d 0 ≤ m
      · keq_rows
        exact hK _ _ (if_pos (decide_eq_true ⟨h0, h1⟩)) (Keep.refl _ _)
      · keq_rows
        exact hK' _ (if_neg fun z => h1 (of_decide_eq_true z).2) (Keep.refl _ _)
    · keq_rows
      exact hK' _ (if_neg fun z => h0 (of_decide_eq_true z).1) (Keep.refl _ _)
  · intro S2 k2
    rw [filterMap_if (fun d => decide (0 ≤ (D gates tag (-1)).getD d 0 ∧ (D gates tag (-1)).getD d 0 ≤ m)), nats_W]
    exact h S2 (k1.trans k2)
theorem mem_nats {xs : List Nat} {d : Nat} : W.int (d : Int) ∈ (natsI xs).map W.int ↔ d ∈ xs := by
  constructor
  · intro h
    obtain ⟨i, hi, e⟩ := List.mem_map.mp h
    obtain ⟨j, hj, rfl⟩ := List.mem_map.mp hi
    have e2 := W.int.inj e
    have : j = d := by omega
    rw [← this]; exact hj
  · intro h
    exact List.mem_map.mpr ⟨_, List.mem_map.mpr ⟨d, h, rfl⟩, rfl⟩
theorem pns_ints (xs : List Int) : Pns 8 (xs.map W.int) := Pns.of fun x hx => by
  obtain ⟨y, _, rfl⟩ := List.mem_map.mp hx
  exact .int _ _
theorem mem_comes {gates : List (List Int)} {tag m : Int} {d : Nat} (hd : d < 10) : d ∈ comes gates tag m ↔ (0 ≤ (D gates tag (-1)).getD d 0 ∧ (D gates tag (-1)).getD d 0 ≤ m) := by
  unfold comes
  rw [List.mem_filter, decide_eq_true_eq, List.mem_range]
  exact ⟨fun h => h.2, fun h => ⟨hd, h⟩⟩
theorem first_row {n tags : Nat} {gates : List (List Int)} (hv : Valid n tags gates) : ∃ row, gates[0]? = some row ∧ row.length = tags ∧ atI (gates.map wW) 0 = some (wW row) := by
  have h0 : 0 < gates.length := by rw [hv.len]; exact hv.pos
  refine ⟨gates[0], List.getElem?_eq_getElem h0, (hv.row _ (List.getElem_mem h0)).1, ?_⟩
  rw [show (0 : Int) = ((0 : Nat) : Int) from rfl, atI_cast, List.getElem?_map, List.getElem?_eq_getElem h0]
  rfl
def bags (gates : List (List Int)) (tags d : Nat) (m : Int) : List Nat := (List.range tags).filter fun (t : Nat) => decide (0 ≤ (D gates t (-1)).getD d 0 ∧ (D gates t (-1)).getD d 0 ≤ m)
@[irreducible] def sp_whose_bag : ZC := fun ws S K => ∃ n tags gates d m, ws = [wsW gates, .int ((d : Nat) : Int), .int m] ∧ Valid n tags gates ∧ d < 10 ∧ ∀ S', Ext S S' → K (wW (natsI (bags gates tags d m))) S'
theorem c_whose_bag {n tags d : Nat} {gates : List (List Int)} {m : Int} {S : Store} {K : WK} (h1 : Valid n tags gates) (h2 : d < 10) (h : ∀ S', Ext S S' → K (wW (natsI (bags gates tags d m))) S') : sp_whose_bag [wsW gates, .int (d : Int), .int m] S K := by unfold sp_whose_bag; exact ⟨n, tags, gates, d, m, rfl, h1, h2, h⟩
theorem u_whose_bag (ws : List W) (S : Store) (K : WK) (h : sp_whose_bag ws S K) (hl : ws.length = 3) : t_whose_bag sp_may_come (EndK K) (startL 4 ws) S := by
  unfold sp_whose_bag at h
  obtain ⟨n, tags, gates, d, m, rfl, hv, hd, h⟩ := h
  obtain ⟨row, hr0, hrl, hat⟩ := first_row hv
  have hrl' : (row.map W.int).length = tags := by rw [List.length_map]; exact hrl
  have ht2 := hv.tsmall
  kat_tups
  refine glTupX (fun (i : Nat) => W.int (i : Int)) (List.range tags) (by rw [rangeW_map, Int.toNat_natCast, hrl']) (fun t => if decide (0 ≤ (D gates t (-1)).getD d 0 ∧ (D gates t (-1)).getD d 0 ≤ m) then some (.int (t : Int)) else none) (fun _ _ => trivial) (s_sz (by rw [List.length_range]; omega)) ?_ ?_
  · intro i t S2 Kt Kf ht k2 hK hK'
    obtain ⟨rfl, hi⟩ := range_at ht
    keq_rows
    refine c_may_come hv fun S3 k3 => ?_
    have hpn := pns_ints (natsI (comes gates t m))
    k_upd
    · exact hK _ _ (if_pos (decide_eq_true ((mem_comes hd).mp (mem_nats.mp (by assumption))))) k3
    · exact hK' _ (if_neg fun z => absurd (mem_nats.mpr ((mem_comes hd).mpr (of_decide_eq_true z))) (by assumption)) k3
  · intro S2 k2
    rw [filterMap_if (fun (t : Nat) => decide (0 ≤ (D gates t (-1)).getD d 0 ∧ (D gates t (-1)).getD d 0 ≤ m)), nats_W]
    exact h S2 k2
def sure (gates : List (List Int)) (tag : Int) (d : Nat) : List Nat := if (D gates tag (-1)).getD d 0 < 0 then [] else (List.range gates.length).filter fun (k : Nat) => decide (¬ (D gates tag k).getD d 0 = (D gates tag (-1)).getD d 0)
@[irreducible] def sp_sure_gates : ZC := fun ws S K => ∃ n tags gates tag d, ws = [wsW gates, .int tag, .int ((d : Nat) : Int)] ∧ Valid n tags gates ∧ d < 10 ∧ ∀ S', Ext S S' → K (wW (natsI (sure gates tag d))) S'
theorem c_sure_gates {n tags d : Nat} {gates : List (List Int)} {tag : Int} {S : Store} {K : WK} (h1 : Valid n tags gates) (h2 : d < 10) (h : ∀ S', Ext S S' → K (wW (natsI (sure gates tag d))) S') : sp_sure_gates [wsW gates, .int tag, .int (d : Int)] S K := by unfold sp_sure_gates; exact ⟨n, tags, gates, tag, d, rfl, h1, h2, h⟩
theorem u_sure_gates (ws : List W) (S : Store) (K : WK) (h : sp_sure_gates ws S K) (hl : ws.length = 3) : t_sure_gates sp_misreads_to sp_misreads_past (EndK K) (startL 5 ws) S := by
  unfold sp_sure_gates at h
  obtain ⟨n, tags, gates, tag, d, rfl, hv, hd, h⟩ := h
  have hn2 := hv.small
  have hgl : (gates.map wW).length = n := by rw [List.length_map]; exact hv.len
  kat_tups
  refine c_misreads_to hv fun S1 k1 => ?_
  have hat := atI_nat (xs := D gates tag (-1)) (i := d) (by rw [D_len]; omega)
  by_cases h0 : (D gates tag (-1)).getD d 0 < 0
  · keq_rows
    have := h S1 k1
    rw [sure, if_pos h0] at this
    exact this
  · keq_rows
    refine glTupX (fun (i : Nat) => W.int (i : Int)) (List.range gates.length) (by rw [rangeW_map, Int.toNat_natCast, List.length_map]) (fun (k : Nat) => if decide (¬ (D gates tag k).getD d 0 = (D gates tag (-1)).getD d 0) then some (.int (k : Int)) else none) (fun _ _ => trivial) (s_sz (by rw [List.length_range, hv.len]; omega)) ?_ ?_
    · intro i t S2 Kt Kf ht k2 hK hK'
      obtain ⟨rfl, hi⟩ := range_at ht
      keq_rows
      refine c_misreads_past hv fun S3 k3 => ?_
      have hat2 := atI_nat (xs := D gates tag t) (i := d) (by rw [D_len]; omega)
      k_upd
      · exact hK _ _ (if_pos (decide_eq_true (by assumption))) k3
      · exact hK' _ (if_neg fun z => (of_decide_eq_true z) (by assumption)) k3
    · intro S2 k2
      rw [filterMap_if (fun (k : Nat) => decide (¬ (D gates tag k).getD d 0 = (D gates tag (-1)).getD d 0)), nats_W]
      have := h S2 (k1.trans k2)
      rw [sure, if_neg h0] at this
      exact this
end L83

set_option maxHeartbeats 4000000
namespace L83
open PySem PySem.Spec PyProof.Rows L2 Z FS
local macro_rules | `(tactic| tb_start) => `(tactic| first | assumption | exact True.intro | exact ⟨_, _, rfl, by ke_read⟩ | ((with_reducible refine' MulOk.r ?s1 ?s2); (case s1 => (decide)); (case s2 => (decide))) | ((with_reducible refine' DivOk.any ?s1); (case s1 => (assumption))) | ((with_reducible refine' DivOk.small ?s1 ?s2); (case s1 => (decide)); (case s2 => (decide))) | ((with_reducible refine' MulOk.r ?s1 ?s2); (case s1 => (omega)); (case s2 => (omega))) | ((with_reducible refine' MulOk.l ?s1 ?s2); (case s1 => (omega)); (case s2 => (omega))) | ((with_reducible refine' DivOk.small ?s1 ?s2); (case s1 => (omega)); (case s2 => (omega))) | ((with_reducible refine' PowOk.lit ?s1 ?s2 ?s3); (case s1 => (decide)); (case s2 => (decide)); (case s3 => (decide))) | omega | ((with_reducible refine' s_sz ?s1); (case s1 => (first | omega | (simp only [List.length_append, List.length_cons, List.length_nil, List.length_map, List.length_set, List.length_take, List.length_drop, List.length_dropLast] <;> omega)))) | ((with_reducible refine' s_szl ?s1); (case s1 => (first | omega | (simp only [List.length_append, List.length_cons, List.length_nil, List.length_map, List.length_set, List.length_take, List.length_drop, List.length_dropLast] <;> omega)))) | ke_read | ked_read | decide)
local macro_rules | `(tactic| ke_reads) => `(tactic| first | assumption | exact Ne.symm (by assumption) | omega | (simp only [List.length_append, List.length_cons, List.length_nil, List.length_set] at * <;> omega))
local macro_rules | `(tactic| ked_reads) => `(tactic| first | assumption | ((with_reducible refine' lt_of_get ?s1); (case s1 => (ked_read))))
local macro_rules | `(tactic| ked_read) => `(tactic| first | assumption | ((with_reducible refine' List.getElem?_set_self ?s1); (case s1 => (ked_reads))) | ((with_reducible refine' set_ne' ?s1 ?s2); (case s1 => (ke_reads)); (case s2 => (ked_read))) | exact (app_get0 _ _).trans rfl | exact (app_get _ _ _).trans rfl | ((with_reducible refine' app_l ?s1); (case s1 => (ked_read))))
local macro_rules | `(tactic| ke_read) => `(tactic| first | assumption | (apply getL_of; assumption) | ((with_reducible refine' getL_set_self ?s1); (case s1 => (ked_reads))) | exact getL_app00 _ _ _ | exact getL_app1 _ _ _ _ | ((with_reducible refine' getL_set_ne' ?s1 ?s2); (case s1 => (ke_reads)); (case s2 => (ke_read))) | ((with_reducible refine' getL_app_l ?s1); (case s1 => (ke_read))) | exact (getL_app _ _ _).trans rfl)
local macro_rules | `(tactic| kqd_all) => `(tactic| first | assumption | (rw [atI_m1]; first | with_unfolding_all rfl | assumption) | (rw [atI_lit]; first | with_unfolding_all rfl | assumption) | (rw [atI_cast]; assumption) | exact atI_ints (by omega) (by simp only [List.length_map] at *; omega))
local macro_rules | `(tactic| kct_strs) => `(tactic| first | assumption | (rw [ixN_lit, if_pos (by simp)]; done))
local macro_rules | `(tactic| kp_flats) => `(tactic| first | with_reducible refine q_let0 ?_ | with_reducible refine q_let1 ?_ | with_reducible refine q_let2 ?_ | with_reducible refine q_let3 ?_ | with_reducible refine q_let4 ?_ | with_reducible refine q_let5 ?_ | with_reducible refine q_let6 ?_ | with_reducible refine q_let7 ?_ | with_reducible refine q_let8 ?_ | with_reducible refine q_let9 ?_ | with_reducible refine q_let10 ?_ | with_reducible refine q_let11 ?_ | with_reducible refine q_let12 ?_ | with_reducible refine q_let13 ?_ | with_reducible refine q_let14 ?_ | with_reducible refine q_let15 ?_ | with_reducible refine q_let16 ?_ | with_reducible refine q_let17 ?_ | with_reducible refine q_let18 ?_ | with_reducible refine q_let19 ?_ | with_reducible refine q_let20 ?_ | with_reducible refine q_let21 ?_ | with_reducible refine q_let22 ?_ | with_reducible refine q_let23 ?_ | with_reducible refine q_let24 ?_ | with_reducible refine q_let25 ?_ | with_reducible refine q_let26 ?_ | with_reducible refine q_let27 ?_ | with_reducible refine q_let28 ?_ | with_reducible refine q_let29 ?_ | with_reducible refine q_let30 ?_ | with_reducible refine q_let31 ?_ | with_reducible refine q_let32 ?_ | with_reducible refine q_let33 ?_ | with_reducible refine q_let34 ?_ | with_reducible refine q_let35 ?_ | with_reducible refine q_let36 ?_ | with_reducible refine q_let37 ?_ | with_reducible refine q_let38 ?_ | with_reducible refine q_let39 ?_)
local macro_rules | `(tactic| tb_rel) => `(tactic| first | ((with_reducible show qLet _ _ _ _); kp_flats) | ((with_reducible refine' i_dt ?s1 ?_); (case s1 => (first | assumption | rfl))) | ((with_reducible refine' i_df ?s1 ?_); (case s1 => (assumption))) | ((with_reducible refine' i_nf ?s1 ?_); (case s1 => (first | assumption | rfl))) | ((with_reducible refine' i_nt ?s1 ?_); (case s1 => (assumption))) | ((with_reducible refine' i_t ?s1 ?_); (case s1 => (with_unfolding_all rfl))) | ((with_reducible refine' i_f ?s1 ?_); (case s1 => (with_unfolding_all rfl))) | ((with_reducible refine' q_ix_tup ?s1 ?_); (case s1 => (kqd_all))) | ((with_reducible refine' q_ix_ref ?s1 ?s2 ?_); (case s1 => (ke_read)); (case s2 => (kqd_all))) | ((with_reducible refine' q_eq_int ?_)) | ((with_reducible refine' q_ne_int ?_)) | ((with_reducible refine' q_eq_str ?s1 ?s2 ?_); (case s1 => (first | assumption | decide +kernel)); (case s2 => (first | assumption | decide +kernel))) | ((with_reducible refine' q_ne_str ?s1 ?s2 ?_); (case s1 => (first | assumption | decide +kernel)); (case s2 => (first | assumption | decide +kernel))) | ((with_reducible refine' q_len_tup ?_)) | ((with_reducible refine' q_len_ref ?s1 ?_); (case s1 => (ke_read))) | ((with_reducible refine' s_isml ?s1 ?_); (case s1 => (ke_read))) | ((with_reducible refine' q_append2 ?s1 ?s2 ?_); (case s1 => (ked_reads)); (case s2 => (tb_start))) | ((with_reducible refine' q_append0 ?s1 ?_); (case s1 => (tb_start))) | ((with_reducible refine' q_append1 ?s1 ?_); (case s1 => (tb_start))) | ((with_reducible refine' q_append ?s1 ?s2 ?_); (case s1 => (ked_read)); (case s2 => (tb_start))) | ((with_reducible refine' q_cat ?s1 ?s2 ?s3 ?_); (case s1 => (ked_read)); (case s2 => (ked_read)); (case s3 => (tb_start))) | ((with_reducible refine' q_pop0 ?s1 ?_); (case s1 => (ked_read))) | ((with_reducible refine' q_setL2 ?s1 ?s2 ?_); (case s1 => (ked_reads)); (case s2 => (kct_strs))) | ((with_reducible refine' q_setL ?s1 ?s2 ?_); (case s1 => (ked_read)); (case s2 => (kct_strs))) | ((with_reducible refine' q_tup_tup ?_)) | ((with_reducible refine' q_tup_ref ?s1 ?_); (case s1 => (ke_read))) | ((with_reducible refine' q_list_tup ?_)) | ((with_reducible refine' q_list_ref ?s1 ?_); (case s1 => (ke_read))) | ((with_reducible refine' q_sl_tupE ?s1 ?_); (case s1 => (assumption))) | ((with_reducible refine' q_sl_refE ?s1 ?s2 ?_); (case s1 => (ke_read)); (case s2 => (assumption))) | ((with_reducible refine' q_sl_tup ?_)) | ((with_reducible refine' q_sl_ref ?s1 ?_); (case s1 => (ke_read))) | ((with_reducible refine' s_enumI_tup ?_)) | ((with_reducible refine' s_enumI_ref ?s1 ?_); (case s1 => (ke_read))) | ((with_reducible refine' s_seqI_tup ?_)) | ((with_reducible refine' s_seqI_ref ?s1 ?_); (case s1 => (ke_read))) | ((with_reducible refine' q_eq_pn (d := 8) (e := 8) ?s1 ?s2 ?s3 ?s4 ?_); (case s1 => (lsm_bools)); (case s2 => (lsm_bools)); (case s3 => (first | decide | omega)); (case s4 => (first | decide | omega))) | ((with_reducible refine' q_ne_pn (d := 8) (e := 8) ?s1 ?s2 ?s3 ?s4 ?_); (case s1 => (lsm_bools)); (case s2 => (lsm_bools)); (case s3 => (first | decide | omega)); (case s4 => (first | decide | omega))) | ((with_reducible refine' q_eq_lpn (d := 8) (e := 8) ?s1 ?s2 ?s3 ?s4 ?s5 ?s6 ?_); (case s1 => (ke_read)); (case s2 => (ke_read)); (case s3 => (lsm_bools)); (case s4 => (lsm_bools)); (case s5 => (first | decide | omega)); (case s6 => (first | decide | omega))) | ((with_reducible refine' q_ne_lpn (d := 8) (e := 8) ?s1 ?s2 ?s3 ?s4 ?s5 ?s6 ?_); (case s1 => (ke_read)); (case s2 => (ke_read)); (case s3 => (lsm_bools)); (case s4 => (lsm_bools)); (case s5 => (first | decide | omega)); (case s6 => (first | decide | omega))) | ((with_reducible refine' q_is_non ?_)) | ((with_reducible refine' q_isnot_non ?_)) | ((with_reducible refine' q_eq_bl ?_)) | ((with_reducible refine' q_ne_bl ?_)) | ((with_reducible refine' q_isi ?s1 ?s2 ?_); (case s1 => (with_unfolding_all rfl)); (case s2 => (with_unfolding_all rfl))) | ((with_reducible refine' q_in_l (d := 8) (e := 8) ?s1 ?s2 ?s3 ?s4 ?s5 ?_); (case s1 => (ke_read)); (case s2 => (lsm_bools)); (case s3 => (lsm_bools)); (case s4 => (first | decide | omega)); (case s5 => (first | decide | omega))) | ((with_reducible refine' q_in_t (d := 8) (e := 8) ?s1 ?s2 ?s3 ?s4 ?_); (case s1 => (lsm_bools)); (case s2 => (lsm_bools)); (case s3 => (first | decide | omega)); (case s4 => (first | decide | omega))) | ((with_reducible refine' q_notin_l (d := 8) (e := 8) ?s1 ?s2 ?s3 ?s4 ?s5 ?_); (case s1 => (ke_read)); (case s2 => (lsm_bools)); (case s3 => (lsm_bools)); (case s4 => (first | decide | omega)); (case s5 => (first | decide | omega))) | ((with_reducible refine' q_notin_t (d := 8) (e := 8) ?s1 ?s2 ?s3 ?s4 ?_); (case s1 => (lsm_bools)); (case s2 => (lsm_bools)); (case s3 => (first | decide | omega)); (case s4 => (first | decide | omega))) | ((with_reducible refine' q_getL ?s1 ?s2 ?_); (case s1 => (ke_read)); (case s2 => (kqd_all))) | ((with_reducible refine' s_sum ?s1 ?_); (case s1 => (ke_read))) | ((with_reducible refine' s_lstRg ?s1 ?_); (case s1 => (tb_start))) | ((with_reducible refine' s_tupRg ?s1 ?_); (case s1 => (tb_start))) | ((with_reducible refine' s_rng3 ?s1 ?_); (case s1 => (assumption))) | ((with_reducible refine' s_zip_tup ?_)) | ((with_reducible refine' s_zip_ref ?s1 ?s2 ?_); (case s1 => (ke_read)); (case s2 => (ke_read))) | ((with_reducible refine' s_rev_tup ?_)) | ((with_reducible refine' s_rev_ref ?s1 ?_); (case s1 => (ke_read))) | ((with_reducible refine' q_push0 ?s1 ?_); (case s1 => (tb_start))) | ((with_reducible refine' q_push ?s1 ?s2 ?_); (case s1 => (ked_read)); (case s2 => (tb_start))) | ((with_reducible refine' s_rep ?s1 ?_); (case s1 => (ked_read))) | ((with_reducible refine' And.intro ?s1 ?_); (case s1 => (tb_start))))
local macro_rules | `(tactic| kbo_bools) => `(tactic| first | with_reducible refine i_d (fun _ => ?_) (fun _ => ?_) | with_reducible refine i_n (fun _ => ?_) (fun _ => ?_))
local macro_rules | `(tactic| keq_rows) => `(tactic| ((conv => whnf); repeat (tb_rel; (conv => whnf))))
local macro_rules | `(tactic| k_upd) => `(tactic| (keq_rows; try (kbo_bools <;> k_upd)))
local macro_rules | `(tactic| kat_tups) => `(tactic| (simp only [startL, List.map_cons, List.map_nil, List.length_cons, List.length_nil, Nat.zero_add, Nat.reduceAdd, Nat.reduceSub, List.reduceReplicate, List.cons_append, List.nil_append]; keq_rows))
local macro_rules | `(tactic| k_updF) => `(tactic| first | assumption | exact Keep.refl _ _ | exact Keep.app _ _ _ | ((with_reducible refine' Keep.app_r ?s1); (case s1 => (k_updF))) | ((with_reducible refine' Keep.set_in ?s1 ?s2); (case s1 => ((simp only [List.mem_cons, true_or, or_true]))); (case s2 => (k_updF))) | ((with_reducible refine' Keep.set_new ?s1 ?s2); (case s1 => (first | omega | (simp only [List.length_append, List.length_cons, List.length_nil, List.length_set] at * <;> omega))); (case s2 => (k_updF))) | exact Ext.keep (by assumption) | ((with_reducible refine' Keep.trans ?a (by assumption)); (case a => (k_updF))) | ((with_reducible refine' Keep.trans ?a (Ext.keep (by assumption))); (case a => (k_updF))))
local macro_rules | `(tactic| lsm_bools) => `(tactic| first | assumption | exact Pl.int _ _ | exact Pn.int _ _ | ((with_reducible refine' Pl.str _ _ ?s1); (case s1 => (first | assumption | decide +kernel))) | ((with_reducible refine' Pn.str _ _ ?s1); (case s1 => (first | assumption | decide +kernel))) | exact Pn.non _ | exact Pl.non _ | exact Pl.bl _ _ | exact Pns.nil _ | exact Pls.nil _ | ((with_reducible refine' Pls.cons ?s1 ?s2); (case s1 => (lsm_bools)); (case s2 => (lsm_bools))) | ((with_reducible refine' Pns.cons ?s1 ?s2); (case s1 => (lsm_bools)); (case s2 => (lsm_bools))) | ((with_reducible refine' Pl.tup ?s1 ?s2); (case s1 => (first | omega | (simp only [List.length_append, List.length_cons, List.length_nil, List.length_map, List.length_set, List.length_take, List.length_drop, List.length_dropLast] <;> omega))); (case s2 => (lsm_bools))) | ((with_reducible refine' Pn.tup ?s1 ?s2); (case s1 => (first | omega | (simp only [List.length_append, List.length_cons, List.length_nil, List.length_map, List.length_set, List.length_take, List.length_drop, List.length_dropLast] <;> omega))); (case s2 => (lsm_bools))))
def own (gates : List (List Int)) (tag gone : Int) : Bst := passF tag gone 0 gates (start (if gone = 0 then -1 else 0) gates.length)
theorem set_start {n : Nat} (hn : 1 ≤ n) (v : Int) : (List.replicate n (-1 : Int)).set 0 v = v :: List.replicate (n - 1) (-1) := by
  cases n with
  | zero => omega
  | succ n => rfl
@[irreducible] def sp__law_misreads : ZC := fun ws S K => ∃ n tags gates tag gone, ws = [wsW gates, .int tag, .int gone] ∧ Valid n tags gates ∧ ∀ S' a p, Ext S S' → S'[p]? = some (.lst ((own gates tag gone).2.map W.int)) → K (.tup [.ref a, .ref p]) S'
theorem c__law_misreads {n tags : Nat} {gates : List (List Int)} {tag gone : Int} {S : Store} {K : WK} (h1 : Valid n tags gates) (h : ∀ S' a p, Ext S S' → S'[p]? = some (.lst ((own gates tag gone).2.map W.int)) → K (.tup [.ref a, .ref p]) S') : sp__law_misreads [wsW gates, .int tag, .int gone] S K := by unfold sp__law_misreads; exact ⟨n, tags, gates, tag, gone, rfl, h1, h⟩
theorem u__law_misreads (ws : List W) (S : Store) (K : WK) (h : sp__law_misreads ws S K) (hl : ws.length = 3) : t__law_misreads (EndK K) (startL 10 ws) S := by
  unfold sp__law_misreads at h
  obtain ⟨n, tags, gates, tag, gone, rfl, hv, h⟩ := h
  have hgl : (gates.map wW).length = n := by rw [List.length_map]; exact hv.len
  have hn1 := hv.pos
  have hn2 := hv.small
  have hgn := hv.len
  have hd : times [W.int (-1)] 10 = (List.replicate 10 (-1)).map W.int := times_m1 10
  have hh : times [W.int (-1)] ((gates.map wW).length : Int) = (List.replicate n (-1)).map W.int := by rw [times_m1, hgl]; rfl
  have hix : ixN (times [W.int (-1)] ((gates.map wW).length : Int)).length 0 = some 0 := by
    rw [hh, List.length_map, List.length_replicate]
    unfold ixN
    rw [if_pos (by omega), if_pos (by omega)]; rfl
  have main : ∀ (S1 : Store) (p q : Nat) (v : Int), v = (if gone = 0 then -1 else 0) → p ≠ q → S.length ≤ p → S.length ≤ q → S1[p]? = some (.lst ((List.replicate 10 (-1)).map W.int)) → S1[q]? = some (.lst (((start v n).1).map W.int)) → Ext S S1 →
    FlEnd ⟨rangeW 0 ((gates.map wW).length : Int).toNat, fun _ => True⟩ (zgName 5) (zIfS (zAnd (zTb (zOp qGe (zOp qIx (zVar 3) (zVar 5)) (zC (.int 0)))) (zTb (zOp (qEq true) (zVar 5) (zVar 2)))) (zFor (zRngI (zCons (zCall qLen (zCons (zOp qIx (zVar 0) (zVar 5)) zNil)) zNil)) (zgName 6) (zSeq (zPar 7 8 (zCons (zOp qAdd (zOp qIx (zVar 3) (zVar 5)) (zCall qInt (zCons (zOp (qEq true) (zVar 6) (zVar 1)) zNil))) (zCons (zOp qIx (zOp qIx (zVar 0) (zVar 5)) (zVar 6)) zNil)))
    (zIfS (zTb (zOp qLt (zVar 8) (zC (.int 0)))) (zSeq (zAsg (zOp qSub (zUn qNeg (zC (.int 1))) (zVar 8)) (zgName 9))
    (zAsg (zIf (zTb (zOp qLt (zOp qIx (zVar 4) (zVar 9)) (zC (.int 0)))) (zVar 7) (zCall qMin2 (zCons (zOp qIx (zVar 4) (zVar 9)) (zCons (zVar 7) zNil)))) (zgSub (zVar 4) (zVar 9) qSetL))) (zAsg (zIf (zTb (zOp qLt (zOp qIx (zVar 3) (zVar 8)) (zC (.int 0)))) (zVar 7) (zCall qMin2 (zCons (zOp qIx (zVar 3) (zVar 8)) (zCons (zVar 7) zNil)))) (zgSub (zVar 3) (zVar 8) qSetL))))) zNext)
    { nx := zRet (zTup (zCons (zVar 3) (zCons (zVar 4) zNil))) (EndK K), rt := (EndK K).rt } [some (wsW gates), some (.int tag), some (.int gone), some (.ref q), some (.ref p), none, none, none, none, none] S1 := by
    intro S1 p q v hvv hpq hp hq h3 h4 k1
    refine forI (fun i L S' => ∃ (st : Bst) (x5 x6 x7 x8 x9 : Option W), L = [some (wsW gates), some (.int tag), some (.int gone), some (.ref q), some (.ref p), x5, x6, x7, x8, x9] ∧ S'[p]? = some (.lst (st.2.map W.int)) ∧ S'[q]? = some (.lst (st.1.map W.int)) ∧ st.1.length = n ∧ st.2.length = 10 ∧ passF tag gone i (gates.drop i) st = passF tag gone 0 gates (start v n) ∧ Ext S S')
      ⟨start v n, _, _, _, _, _, rfl, h3, h4, by simp [start]; omega, by simp [start], rfl, k1⟩ (fun _ _ _ _ => trivial) ?_ ?_
    · rintro i w L S2 hw ⟨st, x5, x6, x7, x8, x9, rfl, h3, h4, l1, l2, hf, k2⟩
      obtain ⟨hi, rfl⟩ := rangeW_inv0 hw
      rw [Int.toNat_natCast, hgl] at hi
      obtain ⟨row, hr⟩ : ∃ row, gates[i]? = some row := ⟨_, List.getElem?_eq_getElem (by omega)⟩
      obtain ⟨hrl, hrb⟩ := hv.row row (List.mem_of_getElem? hr)
      have hrow : atI (gates.map wW) (i : Int) = some (wW row) := by rw [atI_cast, List.getElem?_map, hr]; rfl
      have hrl2 : (row.map W.int).length ≤ 10 := by rw [List.length_map, hrl]; exact hv.tsmall
      have hat := atI_nat (xs := st.1) (i := i) (by omega)
      rw [drop_at hr, passF] at hf
      have skip : ((i : Int) = gone ∨ st.1.getD i 0 < 0) → passF tag gone (i + 1) (gates.drop (i + 1)) st = passF tag gone 0 gates (start v n) := fun z => by rw [if_pos z] at hf; exact hf
      by_cases hneg : st.1.getD i 0 < 0
      · have hneg' : ¬ st.1.getD i 0 ≥ 0 := by omega
        keq_rows
        exact ⟨st, _, _, _, _, _, rfl, h3, h4, l1, l2, skip (.inr hneg), k2⟩
      have hneg' : st.1.getD i 0 ≥ 0 := by omega
      by_cases hs : (i : Int) = gone
      · keq_rows
        exact ⟨st, _, _, _, _, _, rfl, h3, h4, l1, l2, skip (.inl hs), k2⟩
      rw [if_neg (by rintro (z | z) <;> contradiction)] at hf
      keq_rows
      refine forI (fun j L S' => ∃ (st2 : Bst) (x6 x7 x8 x9 : Option W), L = [some (wsW gates), some (.int tag), some (.int gone), some (.ref q), some (.ref p), some (.int (i : Nat)), x6, x7, x8, x9] ∧ S'[p]? = some (.lst (st2.2.map W.int)) ∧ S'[q]? = some (.lst (st2.1.map W.int)) ∧ st2.1.length = n ∧ st2.2.length = 10 ∧ gateF tag i j (row.drop j) st2 = gateF tag i 0 row st ∧ Ext S S')
        ⟨st, _, _, _, _, rfl, h3, h4, l1, l2, rfl, k2⟩ (fun _ _ _ _ => trivial) ?_ ?_
      · rintro j w L S3 hw ⟨st2, x6, x7, x8, x9, rfl, h3', h4', l1', l2', hg, k3⟩
        obtain ⟨hj, rfl⟩ := rangeW_inv0 hw
        rw [Int.toNat_natCast, List.length_map] at hj
        have hge : row[j]? = some (row.getD j 0) := by rw [List.getD_eq_getElem?_getD, List.getElem?_eq_getElem hj]; rfl
        have hgat := atI_nat (xs := row) (i := j) hj
        have hgb := hrb _ (List.mem_of_getElem? hge)
        rw [drop_at hge, gateF] at hg
        generalize row.getD j 0 = goal at *
        have hat2 := atI_nat (xs := st2.1) (i := i) (by omega)
        by_cases hgn : goal < 0
        · have hdoor := atI_nat (xs := st2.2) (i := (-1 - goal).toNat) (by omega)
          rw [show (((-1 - goal).toNat : Nat) : Int) = -1 - goal by omega] at hdoor
          have hix2 : ixN (st2.2.map W.int).length (-1 - goal) = some (-1 - goal).toNat := by
            unfold ixN
            rw [if_pos (by omega), if_pos (by rw [List.length_map]; omega)]
          have hst : ∀ c, c = (if (j : Int) = tag then (0 : Int) else 1) → step1 tag i j goal st2 = (st2.1, st2.2.set (-1 - goal).toNat (less (st2.2.getD (-1 - goal).toNat 0) (st2.1.getD i 0 + c))) := fun c hc => by
            rw [hc]; exact if_pos hgn
          by_cases hjt : (j : Int) = tag
          · by_cases hng : st2.2.getD (-1 - goal).toNat 0 < 0
            · have hst2 := hst _ rfl
              rw [less, if_pos hng] at hst2
              keq_rows
              refine ⟨step1 tag i j goal st2, _, _, _, _, rfl, ?_, ?_, ?_, ?_, hg, Keep.set_new hp k3⟩
              · rw [hst2, List.map_set]
                simp only [hjt, List.getElem?_set_self (lt_of_get h3'), if_true, if_false, decide_true, decide_false, Bool.not_true, Bool.not_false, not_true_eq_false, not_false_eq_true, Bool.false_eq_true, Int.add_zero]
              · rw [hst2, List.getElem?_set_ne hpq]; exact h4'
              · rw [hst2]; exact l1'
              · rw [hst2, List.length_set]; exact l2'
            · have hst2 := hst _ rfl
              rw [less, if_neg hng] at hst2
              keq_rows
              refine ⟨step1 tag i j goal st2, _, _, _, _, rfl, ?_, ?_, ?_, ?_, hg, Keep.set_new hp k3⟩
              · rw [hst2, List.map_set]
                simp only [hjt, List.getElem?_set_self (lt_of_get h3'), if_true, if_false, decide_true, decide_false, Bool.not_true, Bool.not_false, not_true_eq_false, not_false_eq_true, Bool.false_eq_true, Int.add_zero]
              · rw [hst2, List.getElem?_set_ne hpq]; exact h4'
              · rw [hst2]; exact l1'
              · rw [hst2, List.length_set]; exact l2'
          · by_cases hng : st2.2.getD (-1 - goal).toNat 0 < 0
            · have hst2 := hst _ rfl
              rw [less, if_pos hng] at hst2
              keq_rows
              refine ⟨step1 tag i j goal st2, _, _, _, _, rfl, ?_, ?_, ?_, ?_, hg, Keep.set_new hp k3⟩
              · rw [hst2, List.map_set]
                simp only [hjt, List.getElem?_set_self (lt_of_get h3'), if_true, if_false, decide_true, decide_false, Bool.not_true, Bool.not_false, not_true_eq_false, not_false_eq_true, Bool.false_eq_true, Int.add_zero]
              · rw [hst2, List.getElem?_set_ne hpq]; exact h4'
              · rw [hst2]; exact l1'
              · rw [hst2, List.length_set]; exact l2'
            · have hst2 := hst _ rfl
              rw [less, if_neg hng] at hst2
              keq_rows
              refine ⟨step1 tag i j goal st2, _, _, _, _, rfl, ?_, ?_, ?_, ?_, hg, Keep.set_new hp k3⟩
              · rw [hst2, List.map_set]
                simp only [hjt, List.getElem?_set_self (lt_of_get h3'), if_true, if_false, decide_true, decide_false, Bool.not_true, Bool.not_false, not_true_eq_false, not_false_eq_true, Bool.false_eq_true, Int.add_zero]
              · rw [hst2, List.getElem?_set_ne hpq]; exact h4'
              · rw [hst2]; exact l1'
              · rw [hst2, List.length_set]; exact l2'
        · have hgate := atI_nat (xs := st2.1) (i := goal.toNat) (by omega)
          rw [show ((goal.toNat : Nat) : Int) = goal by omega] at hgate
          have hix2 : ixN (st2.1.map W.int).length goal = some goal.toNat := by
            unfold ixN
            rw [if_pos (by omega), if_pos (by rw [List.length_map]; omega)]
          have hst : ∀ c, c = (if (j : Int) = tag then (0 : Int) else 1) → step1 tag i j goal st2 = (st2.1.set goal.toNat (less (st2.1.getD goal.toNat 0) (st2.1.getD i 0 + c)), st2.2) := fun c hc => by
            rw [hc]; exact if_neg hgn
          by_cases hjt : (j : Int) = tag
          · by_cases hng : st2.1.getD goal.toNat 0 < 0
            · have hst2 := hst _ rfl
              rw [less, if_pos hng] at hst2
              keq_rows
              refine ⟨step1 tag i j goal st2, _, _, _, _, rfl, ?_, ?_, ?_, ?_, hg, Keep.set_new hq k3⟩
              · rw [hst2, List.getElem?_set_ne (Ne.symm hpq)]; exact h3'
              · rw [hst2, List.map_set]
                simp only [hjt, List.getElem?_set_self (lt_of_get h4'), if_true, if_false, decide_true, decide_false, Bool.not_true, Bool.not_false, not_true_eq_false, not_false_eq_true, Bool.false_eq_true, Int.add_zero]
              · rw [hst2, List.length_set]; exact l1'
              · rw [hst2]; exact l2'
            · have hst2 := hst _ rfl
              rw [less, if_neg hng] at hst2
              keq_rows
              refine ⟨step1 tag i j goal st2, _, _, _, _, rfl, ?_, ?_, ?_, ?_, hg, Keep.set_new hq k3⟩
              · rw [hst2, List.getElem?_set_ne (Ne.symm hpq)]; exact h3'
              · rw [hst2, List.map_set]
                simp only [hjt, List.getElem?_set_self (lt_of_get h4'), if_true, if_false, decide_true, decide_false, Bool.not_true, Bool.not_false, not_true_eq_false, not_false_eq_true, Bool.false_eq_true, Int.add_zero]
              · rw [hst2, List.length_set]; exact l1'
              · rw [hst2]; exact l2'
          · by_cases hng : st2.1.getD goal.toNat 0 < 0
            · have hst2 := hst _ rfl
              rw [less, if_pos hng] at hst2
              keq_rows
              refine ⟨step1 tag i j goal st2, _, _, _, _, rfl, ?_, ?_, ?_, ?_, hg, Keep.set_new hq k3⟩
              · rw [hst2, List.getElem?_set_ne (Ne.symm hpq)]; exact h3'
              · rw [hst2, List.map_set]
                simp only [hjt, List.getElem?_set_self (lt_of_get h4'), if_true, if_false, decide_true, decide_false, Bool.not_true, Bool.not_false, not_true_eq_false, not_false_eq_true, Bool.false_eq_true, Int.add_zero]
              · rw [hst2, List.length_set]; exact l1'
              · rw [hst2]; exact l2'
            · have hst2 := hst _ rfl
              rw [less, if_neg hng] at hst2
              keq_rows
              refine ⟨step1 tag i j goal st2, _, _, _, _, rfl, ?_, ?_, ?_, ?_, hg, Keep.set_new hq k3⟩
              · rw [hst2, List.getElem?_set_ne (Ne.symm hpq)]; exact h3'
              · rw [hst2, List.map_set]
                simp only [hjt, List.getElem?_set_self (lt_of_get h4'), if_true, if_false, decide_true, decide_false, Bool.not_true, Bool.not_false, not_true_eq_false, not_false_eq_true, Bool.false_eq_true, Int.add_zero]
              · rw [hst2, List.length_set]; exact l1'
              · rw [hst2]; exact l2'
      · rintro L S3 ⟨st2, x6, x7, x8, x9, rfl, h3', h4', l1', l2', hg, k3⟩
        rw [rangeW_length, Int.toNat_natCast, List.length_map, List.drop_length] at hg
        replace hg : st2 = gateF tag i 0 row st := hg
        keq_rows
        exact ⟨st2, _, _, _, _, _, rfl, h3', h4', l1', l2', by rw [hg]; exact hf, k3⟩
    · rintro L S2 ⟨st, x5, x6, x7, x8, x9, rfl, h3, h4, l1, l2, hf, k2⟩
      rw [rangeW_length, Int.toNat_natCast, List.length_map, List.drop_length] at hf
      replace hf : st = passF tag gone 0 gates (start v n) := hf
      keq_rows
      refine h _ _ p k2 ?_
      rw [own, hgn, ← hvv, ← hf]
      exact h3
  by_cases hg0 : gone = 0
  · kat_tups
    refine main _ _ _ (-1) (by rw [if_pos hg0]) (by simp) (by simp) (by simp) ?_ ?_ ?_
    · rw [List.getElem?_set_ne (by simp), ← hd]
      exact (app_get0 _ _).trans rfl
    · rw [List.getElem?_set_self (by simp), hh, start, ← set_start hn1, List.map_set]
    · exact Keep.set_new (by simp) ((((Keep.app _ _ _).trans (Keep.app _ _ _)).trans (Keep.app _ _ _)).trans (Keep.app _ _ _))
  · kat_tups
    refine main _ _ _ 0 (by rw [if_neg hg0]) (by simp) (by simp) (by simp) ?_ ?_ ?_
    · rw [List.getElem?_set_ne (by simp), ← hd]
      exact (app_get0 _ _).trans rfl
    · rw [List.getElem?_set_self (by simp), hh, start, ← set_start hn1, List.map_set]
    · exact Keep.set_new (by simp) ((((Keep.app _ _ _).trans (Keep.app _ _ _)).trans (Keep.app _ _ _)).trans (Keep.app _ _ _))

theorem own_near (gates : List (List Int)) (tag : Int) : (own gates tag (-1)).2 = D gates tag (-1) := by
  unfold own D
  rw [if_neg (by decide)]
theorem pass_skip {tag shut : Int} : ∀ {rows : List (List Int)} {k : Nat} {st : Bst}, (∀ i : Nat, k ≤ i → i < k + rows.length → (i : Int) = shut ∨ st.1.getD i 0 < 0) → passF tag shut k rows st = st
  | [], _, _, _ => rfl
  | r :: rows, k, st, h => by
    rw [passF, if_pos (h k (Nat.le_refl _) (by simp))]
    exact pass_skip fun i h1 h2 => h i (by omega) (by rw [List.length_cons]; omega)
theorem start_neg {n i : Nat} {v : Int} (h : 0 < i) (hi : i < n) : (start v n).1.getD i 0 < 0 := by
  cases i with
  | zero => omega
  | succ i =>
    show (v :: List.replicate (n - 1) (-1)).getD (i + 1) 0 < 0
    rw [List.getD_eq_getElem?_getD, List.getElem?_cons_succ, List.getElem?_replicate, if_pos (by omega)]
    decide
theorem D_zero (gates : List (List Int)) (tag : Int) : D gates tag 0 = List.replicate 10 (-1) := by
  unfold D
  rw [pass_skip fun i _ hi => ?_]
  · rfl
  · by_cases h : i = 0
    · exact .inl (by omega)
    · exact .inr (start_neg (by omega) (by omega))
theorem own_all (gates : List (List Int)) (tag gone : Int) : (own gates tag gone).2 = D gates tag gone := by
  by_cases h : gone = 0
  · subst h
    rw [D_zero]
    unfold own
    rw [if_pos rfl, pass_skip fun i _ hi => ?_]
    · rfl
    · by_cases h : i = 0
      · exact .inl (by omega)
      · exact .inr (start_neg (by omega) (by omega))
  · unfold own D
    rw [if_neg h]
@[irreducible] def sp__law_near : ZC := fun ws S K => ∃ n tags gates tag, ws = [wsW gates, .int tag] ∧ Valid n tags gates ∧ ∀ S', Ext S S' → K (wW (D gates tag (-1))) S'
theorem c__law_near {n tags : Nat} {gates : List (List Int)} {tag : Int} {S : Store} {K : WK} (h1 : Valid n tags gates) (h : ∀ S', Ext S S' → K (wW (D gates tag (-1))) S') : sp__law_near [wsW gates, .int tag] S K := by unfold sp__law_near; exact ⟨n, tags, gates, tag, rfl, h1, h⟩
theorem u__law_near (ws : List W) (S : Store) (K : WK) (h : sp__law_near ws S K) (hl : ws.length = 2) : t__law_near sp__law_misreads (EndK K) (startL 2 ws) S := by
  unfold sp__law_near at h
  obtain ⟨n, tags, gates, tag, rfl, hv, h⟩ := h
  kat_tups
  refine c__law_misreads hv fun S1 a p k1 e1 => ?_
  rw [own_near] at e1
  keq_rows
  exact h S1 k1
@[irreducible] def sp__law_sure : ZC := fun ws S K => ∃ n tags gates tag d, ws = [wsW gates, .int tag, .int ((d : Nat) : Int)] ∧ Valid n tags gates ∧ d < 10 ∧ ∀ S', Ext S S' → K (wW (natsI (sure gates tag d))) S'
theorem c__law_sure {n tags d : Nat} {gates : List (List Int)} {tag : Int} {S : Store} {K : WK} (h1 : Valid n tags gates) (h2 : d < 10) (h : ∀ S', Ext S S' → K (wW (natsI (sure gates tag d))) S') : sp__law_sure [wsW gates, .int tag, .int (d : Int)] S K := by unfold sp__law_sure; exact ⟨n, tags, gates, tag, d, rfl, h1, h2, h⟩
theorem u__law_sure (ws : List W) (S : Store) (K : WK) (h : sp__law_sure ws S K) (hl : ws.length = 3) : t__law_sure sp__law_near sp__law_misreads (EndK K) (startL 5 ws) S := by
  unfold sp__law_sure at h
  obtain ⟨n, tags, gates, tag, d, rfl, hv, hd, h⟩ := h
  have hn2 := hv.small
  have hgl : (gates.map wW).length = n := by rw [List.length_map]; exact hv.len
  kat_tups
  refine c__law_near hv fun S1 k1 => ?_
  have hat := atI_nat (xs := D gates tag (-1)) (i := d) (by rw [D_len]; omega)
  by_cases h0 : (D gates tag (-1)).getD d 0 < 0
  · keq_rows
    have := h S1 k1
    rw [sure, if_pos h0] at this
    exact this
  · keq_rows
    refine lcX (fun (i : Nat) => W.int (i : Int)) (List.range gates.length) (by rw [rangeW_map, Int.toNat_natCast, List.length_map]) (fun (k : Nat) => if decide (¬ (D gates tag k).getD d 0 = (D gates tag (-1)).getD d 0) then some (.int (k : Int)) else none) (fun _ _ => trivial) (s_sz (by rw [List.length_range, hv.len]; omega)) ?_ ?_
    · intro i t S2 Kt Kf ht k2 hK hK'
      obtain ⟨rfl, hi⟩ := range_at ht
      keq_rows
      refine c__law_misreads hv fun S3 a p k3 e3 => ?_
      rw [own_all] at e3
      have hat2 := atI_nat (xs := D gates tag t) (i := d) (by rw [D_len]; omega)
      k_upd
      · exact hK _ _ (if_pos (decide_eq_true (by assumption))) k3
      · exact hK' _ (if_neg fun z => (of_decide_eq_true z) (by assumption)) k3
    · intro S2 k2 e2
      rw [filterMap_if (fun (k : Nat) => decide (¬ (D gates tag k).getD d 0 = (D gates tag (-1)).getD d 0)), nats_W] at e2
      keq_rows
      have := h S2 (k1.trans k2)
      rw [sure, if_neg h0] at this
      exact this
end L83

set_option maxHeartbeats 4000000
namespace L83
open PySem PySem.Spec PyProof.Rows L2 Z FS
local macro_rules | `(tactic| tb_start) => `(tactic| first | assumption | exact True.intro | exact ⟨_, _, rfl, by ke_read⟩ | ((with_reducible refine' MulOk.r ?s1 ?s2); (case s1 => (decide)); (case s2 => (decide))) | ((with_reducible refine' DivOk.any ?s1); (case s1 => (assumption))) | ((with_reducible refine' DivOk.small ?s1 ?s2); (case s1 => (decide)); (case s2 => (decide))) | ((with_reducible refine' MulOk.r ?s1 ?s2); (case s1 => (omega)); (case s2 => (omega))) | ((with_reducible refine' MulOk.l ?s1 ?s2); (case s1 => (omega)); (case s2 => (omega))) | ((with_reducible refine' DivOk.small ?s1 ?s2); (case s1 => (omega)); (case s2 => (omega))) | ((with_reducible refine' PowOk.lit ?s1 ?s2 ?s3); (case s1 => (decide)); (case s2 => (decide)); (case s3 => (decide))) | omega | ((with_reducible refine' s_sz ?s1); (case s1 => (first | omega | (simp only [List.length_append, List.length_cons, List.length_nil, List.length_map, List.length_set, List.length_take, List.length_drop, List.length_dropLast] <;> omega)))) | ((with_reducible refine' s_szl ?s1); (case s1 => (first | omega | (simp only [List.length_append, List.length_cons, List.length_nil, List.length_map, List.length_set, List.length_take, List.length_drop, List.length_dropLast] <;> omega)))) | ke_read | ked_read | decide)
local macro_rules | `(tactic| ke_reads) => `(tactic| first | assumption | exact Ne.symm (by assumption) | omega | (simp only [List.length_append, List.length_cons, List.length_nil, List.length_set] at * <;> omega))
local macro_rules | `(tactic| ked_reads) => `(tactic| first | assumption | ((with_reducible refine' lt_of_get ?s1); (case s1 => (ked_read))))
local macro_rules | `(tactic| ked_read) => `(tactic| first | assumption | ((with_reducible refine' List.getElem?_set_self ?s1); (case s1 => (ked_reads))) | ((with_reducible refine' set_ne' ?s1 ?s2); (case s1 => (ke_reads)); (case s2 => (ked_read))) | exact (app_get0 _ _).trans rfl | exact (app_get _ _ _).trans rfl | ((with_reducible refine' app_l ?s1); (case s1 => (ked_read))))
local macro_rules | `(tactic| ke_read) => `(tactic| first | assumption | (apply getL_of; assumption) | ((with_reducible refine' getL_set_self ?s1); (case s1 => (ked_reads))) | exact getL_app00 _ _ _ | exact getL_app1 _ _ _ _ | ((with_reducible refine' getL_set_ne' ?s1 ?s2); (case s1 => (ke_reads)); (case s2 => (ke_read))) | ((with_reducible refine' getL_app_l ?s1); (case s1 => (ke_read))) | exact (getL_app _ _ _).trans rfl)
local macro_rules | `(tactic| kqd_all) => `(tactic| first | assumption | (rw [atI_m1]; first | with_unfolding_all rfl | assumption) | (rw [atI_lit]; first | with_unfolding_all rfl | assumption) | (rw [atI_cast]; assumption) | exact atI_ints (by omega) (by simp only [List.length_map] at *; omega))
local macro_rules | `(tactic| kct_strs) => `(tactic| first | assumption | (rw [ixN_lit, if_pos (by simp)]; done))
local macro_rules | `(tactic| kp_flats) => `(tactic| first | with_reducible refine q_let0 ?_ | with_reducible refine q_let1 ?_ | with_reducible refine q_let2 ?_ | with_reducible refine q_let3 ?_ | with_reducible refine q_let4 ?_ | with_reducible refine q_let5 ?_ | with_reducible refine q_let6 ?_ | with_reducible refine q_let7 ?_ | with_reducible refine q_let8 ?_ | with_reducible refine q_let9 ?_ | with_reducible refine q_let10 ?_ | with_reducible refine q_let11 ?_ | with_reducible refine q_let12 ?_ | with_reducible refine q_let13 ?_ | with_reducible refine q_let14 ?_ | with_reducible refine q_let15 ?_ | with_reducible refine q_let16 ?_ | with_reducible refine q_let17 ?_ | with_reducible refine q_let18 ?_ | with_reducible refine q_let19 ?_ | with_reducible refine q_let20 ?_ | with_reducible refine q_let21 ?_ | with_reducible refine q_let22 ?_ | with_reducible refine q_let23 ?_ | with_reducible refine q_let24 ?_ | with_reducible refine q_let25 ?_ | with_reducible refine q_let26 ?_ | with_reducible refine q_let27 ?_ | with_reducible refine q_let28 ?_ | with_reducible refine q_let29 ?_ | with_reducible refine q_let30 ?_ | with_reducible refine q_let31 ?_ | with_reducible refine q_let32 ?_ | with_reducible refine q_let33 ?_ | with_reducible refine q_let34 ?_ | with_reducible refine q_let35 ?_ | with_reducible refine q_let36 ?_ | with_reducible refine q_let37 ?_ | with_reducible refine q_let38 ?_ | with_reducible refine q_let39 ?_)
local macro_rules | `(tactic| tb_rel) => `(tactic| first | ((with_reducible show qLet _ _ _ _); kp_flats) | ((with_reducible refine' i_dt ?s1 ?_); (case s1 => (first | assumption | rfl))) | ((with_reducible refine' i_df ?s1 ?_); (case s1 => (assumption))) | ((with_reducible refine' i_nf ?s1 ?_); (case s1 => (first | assumption | rfl))) | ((with_reducible refine' i_nt ?s1 ?_); (case s1 => (assumption))) | ((with_reducible refine' i_t ?s1 ?_); (case s1 => (with_unfolding_all rfl))) | ((with_reducible refine' i_f ?s1 ?_); (case s1 => (with_unfolding_all rfl))) | ((with_reducible refine' q_ix_tup ?s1 ?_); (case s1 => (kqd_all))) | ((with_reducible refine' q_ix_ref ?s1 ?s2 ?_); (case s1 => (ke_read)); (case s2 => (kqd_all))) | ((with_reducible refine' q_eq_int ?_)) | ((with_reducible refine' q_ne_int ?_)) | ((with_reducible refine' q_eq_str ?s1 ?s2 ?_); (case s1 => (first | assumption | decide +kernel)); (case s2 => (first | assumption | decide +kernel))) | ((with_reducible refine' q_ne_str ?s1 ?s2 ?_); (case s1 => (first | assumption | decide +kernel)); (case s2 => (first | assumption | decide +kernel))) | ((with_reducible refine' q_len_tup ?_)) | ((with_reducible refine' q_len_ref ?s1 ?_); (case s1 => (ke_read))) | ((with_reducible refine' s_isml ?s1 ?_); (case s1 => (ke_read))) | ((with_reducible refine' q_append2 ?s1 ?s2 ?_); (case s1 => (ked_reads)); (case s2 => (tb_start))) | ((with_reducible refine' q_append0 ?s1 ?_); (case s1 => (tb_start))) | ((with_reducible refine' q_append1 ?s1 ?_); (case s1 => (tb_start))) | ((with_reducible refine' q_append ?s1 ?s2 ?_); (case s1 => (ked_read)); (case s2 => (tb_start))) | ((with_reducible refine' q_cat ?s1 ?s2 ?s3 ?_); (case s1 => (ked_read)); (case s2 => (ked_read)); (case s3 => (tb_start))) | ((with_reducible refine' q_pop0 ?s1 ?_); (case s1 => (ked_read))) | ((with_reducible refine' q_setL2 ?s1 ?s2 ?_); (case s1 => (ked_reads)); (case s2 => (kct_strs))) | ((with_reducible refine' q_setL ?s1 ?s2 ?_); (case s1 => (ked_read)); (case s2 => (kct_strs))) | ((with_reducible refine' q_tup_tup ?_)) | ((with_reducible refine' q_tup_ref ?s1 ?_); (case s1 => (ke_read))) | ((with_reducible refine' q_list_tup ?_)) | ((with_reducible refine' q_list_ref ?s1 ?_); (case s1 => (ke_read))) | ((with_reducible refine' q_sl_tupE ?s1 ?_); (case s1 => (assumption))) | ((with_reducible refine' q_sl_refE ?s1 ?s2 ?_); (case s1 => (ke_read)); (case s2 => (assumption))) | ((with_reducible refine' q_sl_tup ?_)) | ((with_reducible refine' q_sl_ref ?s1 ?_); (case s1 => (ke_read))) | ((with_reducible refine' s_enumI_tup ?_)) | ((with_reducible refine' s_enumI_ref ?s1 ?_); (case s1 => (ke_read))) | ((with_reducible refine' s_seqI_tup ?_)) | ((with_reducible refine' s_seqI_ref ?s1 ?_); (case s1 => (ke_read))) | ((with_reducible refine' q_eq_pn (d := 8) (e := 8) ?s1 ?s2 ?s3 ?s4 ?_); (case s1 => (lsm_bools)); (case s2 => (lsm_bools)); (case s3 => (first | decide | omega)); (case s4 => (first | decide | omega))) | ((with_reducible refine' q_ne_pn (d := 8) (e := 8) ?s1 ?s2 ?s3 ?s4 ?_); (case s1 => (lsm_bools)); (case s2 => (lsm_bools)); (case s3 => (first | decide | omega)); (case s4 => (first | decide | omega))) | ((with_reducible refine' q_eq_lpn (d := 8) (e := 8) ?s1 ?s2 ?s3 ?s4 ?s5 ?s6 ?_); (case s1 => (ke_read)); (case s2 => (ke_read)); (case s3 => (lsm_bools)); (case s4 => (lsm_bools)); (case s5 => (first | decide | omega)); (case s6 => (first | decide | omega))) | ((with_reducible refine' q_ne_lpn (d := 8) (e := 8) ?s1 ?s2 ?s3 ?s4 ?s5 ?s6 ?_); (case s1 => (ke_read)); (case s2 => (ke_read)); (case s3 => (lsm_bools)); (case s4 => (lsm_bools)); (case s5 => (first | decide | omega)); (case s6 => (first | decide | omega))) | ((with_reducible refine' q_is_non ?_)) | ((with_reducible refine' q_isnot_non ?_)) | ((with_reducible refine' q_eq_bl ?_)) | ((with_reducible refine' q_ne_bl ?_)) | ((with_reducible refine' q_isi ?s1 ?s2 ?_); (case s1 => (with_unfolding_all rfl)); (case s2 => (with_unfolding_all rfl))) | ((with_reducible refine' q_in_l (d := 8) (e := 8) ?s1 ?s2 ?s3 ?s4 ?s5 ?_); (case s1 => (ke_read)); (case s2 => (lsm_bools)); (case s3 => (lsm_bools)); (case s4 => (first | decide | omega)); (case s5 => (first | decide | omega))) | ((with_reducible refine' q_in_t (d := 8) (e := 8) ?s1 ?s2 ?s3 ?s4 ?_); (case s1 => (lsm_bools)); (case s2 => (lsm_bools)); (case s3 => (first | decide | omega)); (case s4 => (first | decide | omega))) | ((with_reducible refine' q_notin_l (d := 8) (e := 8) ?s1 ?s2 ?s3 ?s4 ?s5 ?_); (case s1 => (ke_read)); (case s2 => (lsm_bools)); (case s3 => (lsm_bools)); (case s4 => (first | decide | omega)); (case s5 => (first | decide | omega))) | ((with_reducible refine' q_notin_t (d := 8) (e := 8) ?s1 ?s2 ?s3 ?s4 ?_); (case s1 => (lsm_bools)); (case s2 => (lsm_bools)); (case s3 => (first | decide | omega)); (case s4 => (first | decide | omega))) | ((with_reducible refine' q_getL ?s1 ?s2 ?_); (case s1 => (ke_read)); (case s2 => (kqd_all))) | ((with_reducible refine' s_sum ?s1 ?_); (case s1 => (ke_read))) | ((with_reducible refine' s_lstRg ?s1 ?_); (case s1 => (tb_start))) | ((with_reducible refine' s_tupRg ?s1 ?_); (case s1 => (tb_start))) | ((with_reducible refine' s_rng3 ?s1 ?_); (case s1 => (assumption))) | ((with_reducible refine' s_zip_tup ?_)) | ((with_reducible refine' s_zip_ref ?s1 ?s2 ?_); (case s1 => (ke_read)); (case s2 => (ke_read))) | ((with_reducible refine' s_rev_tup ?_)) | ((with_reducible refine' s_rev_ref ?s1 ?_); (case s1 => (ke_read))) | ((with_reducible refine' q_push0 ?s1 ?_); (case s1 => (tb_start))) | ((with_reducible refine' q_push ?s1 ?s2 ?_); (case s1 => (ked_read)); (case s2 => (tb_start))) | ((with_reducible refine' s_rep ?s1 ?_); (case s1 => (ked_read))) | ((with_reducible refine' And.intro ?s1 ?_); (case s1 => (tb_start))))
local macro_rules | `(tactic| kbo_bools) => `(tactic| first | with_reducible refine i_d (fun _ => ?_) (fun _ => ?_) | with_reducible refine i_n (fun _ => ?_) (fun _ => ?_))
local macro_rules | `(tactic| keq_rows) => `(tactic| ((conv => whnf); repeat (tb_rel; (conv => whnf))))
local macro_rules | `(tactic| k_upd) => `(tactic| (keq_rows; try (kbo_bools <;> k_upd)))
local macro_rules | `(tactic| kat_tups) => `(tactic| (simp only [startL, List.map_cons, List.map_nil, List.length_cons, List.length_nil, Nat.zero_add, Nat.reduceAdd, Nat.reduceSub, List.reduceReplicate, List.cons_append, List.nil_append]; keq_rows))
local macro_rules | `(tactic| k_updF) => `(tactic| first | assumption | exact Keep.refl _ _ | exact Keep.app _ _ _ | ((with_reducible refine' Keep.app_r ?s1); (case s1 => (k_updF))) | ((with_reducible refine' Keep.set_in ?s1 ?s2); (case s1 => ((simp only [List.mem_cons, true_or, or_true]))); (case s2 => (k_updF))) | ((with_reducible refine' Keep.set_new ?s1 ?s2); (case s1 => (first | omega | (simp only [List.length_append, List.length_cons, List.length_nil, List.length_set] at * <;> omega))); (case s2 => (k_updF))) | exact Ext.keep (by assumption) | ((with_reducible refine' Keep.trans ?a (by assumption)); (case a => (k_updF))) | ((with_reducible refine' Keep.trans ?a (Ext.keep (by assumption))); (case a => (k_updF))))
local macro_rules | `(tactic| lsm_bools) => `(tactic| first | assumption | exact Pl.int _ _ | exact Pn.int _ _ | ((with_reducible refine' Pl.str _ _ ?s1); (case s1 => (first | assumption | decide +kernel))) | ((with_reducible refine' Pn.str _ _ ?s1); (case s1 => (first | assumption | decide +kernel))) | exact Pn.non _ | exact Pl.non _ | exact Pl.bl _ _ | exact Pns.nil _ | exact Pls.nil _ | ((with_reducible refine' Pls.cons ?s1 ?s2); (case s1 => (lsm_bools)); (case s2 => (lsm_bools))) | ((with_reducible refine' Pns.cons ?s1 ?s2); (case s1 => (lsm_bools)); (case s2 => (lsm_bools))) | ((with_reducible refine' Pl.tup ?s1 ?s2); (case s1 => (first | omega | (simp only [List.length_append, List.length_cons, List.length_nil, List.length_map, List.length_set, List.length_take, List.length_drop, List.length_dropLast] <;> omega))); (case s2 => (lsm_bools))) | ((with_reducible refine' Pn.tup ?s1 ?s2); (case s1 => (first | omega | (simp only [List.length_append, List.length_cons, List.length_nil, List.length_map, List.length_set, List.length_take, List.length_drop, List.length_dropLast] <;> omega))); (case s2 => (lsm_bools))))
/-! the belt with a gate more ahead, or behind -/
def sh (to : Int) : Int := if to ≥ 0 then to + 1 else to
theorem step1_shift {tag : Int} {k j : Nat} {goal x : Int} {h d : List Int} (hk : True) : step1 tag (k + 1) j (sh goal) (x :: h, d) = (x :: (step1 tag k j goal (h, d)).1, (step1 tag k j goal (h, d)).2) := by
  unfold step1 sh
  by_cases hg : goal < 0
  · have h1 : ¬ goal ≥ 0 := by omega
    simp only [h1, if_false, hg, if_true]
    rfl
  · have h1 : goal ≥ 0 := by omega
    have h2 : ¬ goal + 1 < 0 := by omega
    have h3 : (goal + 1).toNat = goal.toNat + 1 := by omega
    simp only [h1, if_true, hg, if_false, h2, h3]
    rfl
theorem gateF_shift {tag : Int} {k : Nat} {x : Int} : ∀ (row : List Int) (j : Nat) (h d : List Int), gateF tag (k + 1) j (row.map sh) (x :: h, d) = (x :: (gateF tag k j row (h, d)).1, (gateF tag k j row (h, d)).2)
  | [], _, _, _ => rfl
  | g :: row, j, h, d => by
    rw [List.map_cons, gateF, step1_shift trivial, gateF_shift row (j + 1)]
    rfl
theorem passF_shift {tag s s' : Int} {x : Int} : ∀ (rows : List (List Int)) (k : Nat) (h d : List Int), (∀ i : Nat, k ≤ i → ((((i + 1 : Nat) : Int) = s') ↔ ((i : Int) = s))) → passF tag s' (k + 1) (rows.map fun r => r.map sh) (x :: h, d) = (x :: (passF tag s k rows (h, d)).1, (passF tag s k rows (h, d)).2)
  | [], _, _, _, _ => rfl
  | r :: rows, k, h, d, hs => by
    rw [List.map_cons, passF, passF]
    have e : (x :: h, d).1.getD (k + 1) 0 = h.getD k 0 := by
      show (x :: h).getD (k + 1) 0 = _
      rw [List.getD_eq_getElem?_getD, List.getD_eq_getElem?_getD, List.getElem?_cons_succ]
    have hs2 : ∀ i : Nat, k + 1 ≤ i → ((((i + 1 : Nat) : Int) = s') ↔ ((i : Int) = s)) := fun i hi => hs i (by omega)
    by_cases hc : (k : Int) = s ∨ h.getD k 0 < 0
    · rw [if_pos hc, if_pos (by rw [e, hs k (Nat.le_refl _)]; exact hc)]
      exact passF_shift rows (k + 1) h d hs2
    · rw [if_neg hc, if_neg (by rw [e, hs k (Nat.le_refl _)]; exact hc), gateF_shift]
      exact passF_shift rows (k + 1) _ _ hs2
theorem step1_app {tag : Int} {k j : Nat} {goal y : Int} {h d : List Int} (hk : k < h.length) (hg : goal < h.length) : step1 tag k j goal (h ++ [y], d) = ((step1 tag k j goal (h, d)).1 ++ [y], (step1 tag k j goal (h, d)).2) := by
  have gd : ∀ i : Nat, i < h.length → (h ++ [y]).getD i 0 = h.getD i 0 := fun i hi => by
    rw [List.getD_eq_getElem?_getD, List.getD_eq_getElem?_getD, List.getElem?_append_left hi]
  unfold step1
  by_cases hn : goal < 0
  · simp only [hn, if_true, gd k hk]
  · simp only [hn, if_false, gd k hk, gd goal.toNat (by omega)]
    rw [List.set_append_left _ _ (by omega)]
theorem gateF_app {tag : Int} {k : Nat} {y : Int} : ∀ (row : List Int) (j : Nat) (h d : List Int), k < h.length → (∀ to ∈ row, to < h.length) → gateF tag k j row (h ++ [y], d) = ((gateF tag k j row (h, d)).1 ++ [y], (gateF tag k j row (h, d)).2)
  | [], _, _, _, _, _ => rfl
  | g :: row, j, h, d, hk, hr => by
    have hl := (step1_len (tag := tag) (k := k) (j := j) (goal := g) (st := (h, d))).1
    rw [gateF, step1_app hk (hr g List.mem_cons_self), gateF_app row (j + 1) _ _ (by rw [hl]; exact hk) fun to ht => by rw [hl]; exact hr to (List.mem_cons_of_mem _ ht)]
    rfl
theorem passF_app {tag s : Int} {y : Int} : ∀ (rows : List (List Int)) (k : Nat) (h d : List Int), k + rows.length ≤ h.length → (∀ r ∈ rows, ∀ to ∈ r, to < h.length) → passF tag s k rows (h ++ [y], d) = ((passF tag s k rows (h, d)).1 ++ [y], (passF tag s k rows (h, d)).2)
  | [], _, _, _, _, _ => rfl
  | r :: rows, k, h, d, hk, hr => by
    rw [List.length_cons] at hk
    have e : (h ++ [y], d).1.getD k 0 = h.getD k 0 := by
      show (h ++ [y]).getD k 0 = _
      rw [List.getD_eq_getElem?_getD, List.getD_eq_getElem?_getD, List.getElem?_append_left (by omega)]
    rw [passF, passF, e]
    by_cases hc : (k : Int) = s ∨ h.getD k 0 < 0
    · rw [if_pos hc, if_pos hc]
      exact passF_app rows (k + 1) h d (by omega) fun r hr' => hr r (List.mem_cons_of_mem _ hr')
    · have hl := (gateF_len (tag := tag) (k := k) (r := r) (j := 0) (st := (h, d))).1
      rw [if_neg hc, if_neg hc, gateF_app r 0 h d (by omega) (hr r List.mem_cons_self)]
      exact passF_app rows (k + 1) _ _ (by rw [hl]; show _ ≤ h.length; omega) fun r hr' to ht => by rw [hl]; exact hr r (List.mem_cons_of_mem _ hr') to ht
theorem passF_snoc {tag s : Int} : ∀ (rows : List (List Int)) (k : Nat) (st : Bst) (r : List Int), passF tag s k (rows ++ [r]) st = (if ((k + rows.length : Nat) : Int) = s ∨ (passF tag s k rows st).1.getD (k + rows.length) 0 < 0 then passF tag s k rows st else gateF tag (k + rows.length) 0 r (passF tag s k rows st))
  | [], k, st, r => by
    rw [List.nil_append, passF, passF, passF, List.length_nil, Nat.add_zero]
  | x :: rows, k, st, r => by
    rw [List.cons_append, passF, passF_snoc rows (k + 1), List.length_cons, show k + 1 + rows.length = k + (rows.length + 1) by omega]
    rfl
/-- a copy of the last gate behind all: nothing goes to it -/
theorem D_more {n tags : Nat} {gates : List (List Int)} (hv : Valid n tags gates) (r : List Int) (tag s : Int) : D (gates ++ [r]) tag s = D gates tag s := by
  have hn := hv.pos
  have hl := hv.len
  unfold D
  have e : start 0 (gates ++ [r]).length = ((start 0 gates.length).1 ++ [-1], (start 0 gates.length).2) := by
    rw [List.length_append, hl]
    unfold start
    simp only [List.length_cons, List.length_nil]
    rw [show n + (0 + 1) - 1 = (n - 1) + 1 by omega, List.replicate_succ']
    rfl
  rw [e, passF_snoc]
  have hs : (start 0 gates.length).1.length = n := by unfold start; simp; omega
  have hp := passF_app (tag := tag) (s := s) (y := -1) gates 0 (start 0 gates.length).1 (start 0 gates.length).2 (by omega) fun r hr to ht => by
    rw [hs]; exact ((hv.row r hr).2 to ht).2
  rw [hp]
  have hg : ((passF tag s 0 gates ((start 0 gates.length).1, (start 0 gates.length).2)).1 ++ [-1]).getD (0 + gates.length) 0 = -1 := by
    rw [List.getD_eq_getElem?_getD, List.getElem?_append_right (by rw [passF_len.1, hs, hl]; omega), passF_len.1]
    show ([-1] : List Int)[0 + gates.length - (start 0 gates.length).1.length]?.getD 0 = -1
    rw [hs, hl, show 0 + n - n = 0 by omega]
    rfl
  rw [if_pos (.inr (by show List.getD (_ ++ [-1]) _ 0 < 0; rw [hg]; decide))]
theorem getD_c1 (a b : Int) (r : List Int) : (a :: b :: r).getD 1 0 = b := rfl
theorem ones {tag : Int} : ∀ (m j : Nat) (v : Int) (r d : List Int), (v = 0 ∨ v = 1 ∨ v = -1) → (v = 0 ∨ ((j : Int) ≤ tag ∧ tag < ((j + m : Nat) : Int))) → gateF tag 0 j (List.replicate m 1) (0 :: v :: r, d) = (0 :: 0 :: r, d)
  | 0, j, v, r, d, h1, h2 => by
    have : v = 0 := by rcases h2 with h | h <;> omega
    subst this; rfl
  | m + 1, j, v, r, d, h1, h2 => by
    rw [List.replicate_succ, gateF]
    have hst : step1 tag 0 j 1 (0 :: v :: r, d) = (0 :: less v (0 + if (j : Int) = tag then 0 else 1) :: r, d) := rfl
    rw [hst]
    by_cases hj : (j : Int) = tag
    · have hv : less v (0 + if (j : Int) = tag then 0 else 1) = 0 := by
        rw [if_pos hj]; unfold less
        rcases h1 with rfl | rfl | rfl <;> decide
      rw [hv]
      exact ones m (j + 1) 0 r d (.inl rfl) (.inl rfl)
    · have hv : less v (0 + if (j : Int) = tag then 0 else 1) = 0 ∧ v = 0 ∨ less v (0 + if (j : Int) = tag then 0 else 1) = 1 := by
        rw [if_neg hj]; unfold less
        rcases h1 with rfl | rfl | rfl <;> decide
      rcases hv with ⟨hv, h0⟩ | hv
      · rw [hv]
        exact ones m (j + 1) 0 r d (.inl rfl) (.inl rfl)
      · rw [hv]
        refine ones m (j + 1) 1 r d (.inr (.inl rfl)) ?_
        rcases h2 with h | ⟨ha, hb⟩
        · subst h
          rw [if_neg hj] at hv
          exact absurd hv (by decide)
        · exact .inr ⟨by omega, by omega⟩
/-- a gate ahead that sends all on -/
theorem D_ahead {n tags : Nat} {gates : List (List Int)} (hv : Valid n tags gates) {t : Nat} (ht : t < tags) {s s' : Int} (h0 : s' ≠ 0) (hs : ∀ i : Nat, ((((i + 1 : Nat) : Int) = s') ↔ ((i : Int) = s))) : D (List.replicate tags 1 :: gates.map fun r => r.map sh) t s' = D gates t s := by
  have hn := hv.pos
  have hl := hv.len
  unfold D
  rw [passF, List.length_cons, List.length_map]
  have e : start 0 (gates.length + 1) = (0 :: -1 :: List.replicate (gates.length - 1) (-1), List.replicate 10 (-1)) := by
    unfold start
    rw [show gates.length + 1 - 1 = (gates.length - 1) + 1 by omega, List.replicate_succ]
  rw [e, if_neg (by rintro (z | z); exact h0 z.symm; exact absurd z (show ¬ (0 : Int) < 0 by decide)), ones tags 0 (-1) _ _ (.inr (.inr rfl)) (.inr ⟨by omega, by omega⟩), passF_shift gates 0 _ _ fun i _ => hs i]
  rfl
theorem filter_range_succ (p : Nat → Bool) (n : Nat) : (List.range (n + 1)).filter p = (if p 0 then [0] else []) ++ ((List.range n).filter fun k => p (k + 1)).map (· + 1) := by
  rw [List.range_succ_eq_map, List.filter_cons]
  have : (List.map Nat.succ (List.range n)).filter p = ((List.range n).filter fun k => p (k + 1)).map (· + 1) := by
    rw [List.filter_map]; rfl
  rw [this]
  split <;> rfl
theorem getD_rep (d : Nat) (hd : d < 10) : (List.replicate 10 (-1 : Int)).getD d 0 = -1 := by
  rw [List.getD_eq_getElem?_getD, List.getElem?_replicate, if_pos hd]
  rfl
theorem sure_ahead {n tags : Nat} {gates : List (List Int)} (hv : Valid n tags gates) {t d : Nat} (ht : t < tags) (hd : d < 10) (hne : sure gates t d ≠ []) : sure (List.replicate tags 1 :: gates.map fun r => r.map sh) t d = 0 :: (sure gates t d).map (· + 1) := by
  have e1 : D (List.replicate tags 1 :: gates.map fun r => r.map sh) t (-1) = D gates t (-1) := D_ahead hv ht (by decide) fun i => by constructor <;> (intro h; omega)
  have hneg : ¬ (D gates t (-1)).getD d 0 < 0 := fun z => hne (by unfold sure; rw [if_pos z])
  unfold sure
  rw [e1, if_neg hneg, if_neg hneg, List.length_cons, List.length_map, filter_range_succ]
  have e0 : (D (List.replicate tags 1 :: gates.map fun r => r.map sh) t ((0 : Nat) : Int)).getD d 0 = -1 := by
    rw [show ((0 : Nat) : Int) = 0 from rfl, D_zero, getD_rep d hd]
  rw [if_pos (decide_eq_true (by rw [e0]; omega))]
  rw [List.singleton_append]
  congr 2
  apply List.filter_congr
  intro k hk
  rw [D_ahead hv ht (s := (k : Int)) (by omega) fun i => by constructor <;> (intro h; omega)]
theorem sure_more {n tags : Nat} {gates : List (List Int)} (hv : Valid n tags gates) (r : List Int) (tag : Int) (d : Nat) : sure (gates ++ [r]) tag d = sure gates tag d := by
  have hl := hv.len
  unfold sure
  rw [D_more hv]
  split
  · rfl
  · rw [List.length_append, List.length_cons, List.length_nil, List.range_succ, List.filter_append]
    have : [gates.length].filter (fun (k : Nat) => decide (¬ (D (gates ++ [r]) tag k).getD d 0 = (D gates tag (-1)).getD d 0)) = [] := by
      rw [List.filter_cons_of_neg]
      · rfl
      · rw [D_more hv]
        have : D gates tag (gates.length : Int) = D gates tag (-1) := by
          unfold D
          have : ∀ (rows : List (List Int)) (k : Nat) (st : Bst), k + rows.length = gates.length → passF tag (gates.length : Int) k rows st = passF tag (-1) k rows st := by
            intro rows
            induction rows with
            | nil => intro k st _; rfl
            | cons r rows ih =>
              intro k st hk
              rw [List.length_cons] at hk
              rw [passF, passF, ih (k + 1) _ (by omega)]
              congr 1
              by_cases hc : st.1.getD k 0 < 0
              · rw [if_pos (.inr hc), if_pos (.inr hc)]
              · rw [if_neg (by rintro (z | z); omega; exact hc z), if_neg (by rintro (z | z); omega; exact hc z)]
          rw [this gates 0 _ (by omega)]
        rw [this]
        simp
    rw [this, List.append_nil]
    apply List.filter_congr
    intro k hk
    rw [D_more hv]
theorem sure_first {n tags : Nat} {gates : List (List Int)} (hv : Valid n tags gates) {tag : Int} {d : Nat} (hd : d < 10) (hne : sure gates tag d ≠ []) : ∃ r, sure gates tag d = 0 :: r := by
  have hn := hv.pos
  have hl := hv.len
  have hneg : ¬ (D gates tag (-1)).getD d 0 < 0 := fun z => hne (by unfold sure; rw [if_pos z])
  unfold sure
  rw [if_neg hneg, show gates.length = (gates.length - 1) + 1 by omega, filter_range_succ]
  have e0 : (D gates tag ((0 : Nat) : Int)).getD d 0 = -1 := by
    rw [show ((0 : Nat) : Int) = 0 from rfl, D_zero, getD_rep d hd]
  rw [if_pos (decide_eq_true (by rw [e0]; omega))]
  exact ⟨_, rfl⟩
end L83

set_option maxHeartbeats 4000000
namespace L83
open PySem PySem.Spec PyProof.Rows L2 Z FS
local macro_rules | `(tactic| tb_start) => `(tactic| first | assumption | exact True.intro | exact ⟨_, _, rfl, by ke_read⟩ | ((with_reducible refine' MulOk.r ?s1 ?s2); (case s1 => (decide)); (case s2 => (decide))) | ((with_reducible refine' DivOk.any ?s1); (case s1 => (assumption))) | ((with_reducible refine' DivOk.small ?s1 ?s2); (case s1 => (decide)); (case s2 => (decide))) | ((with_reducible refine' MulOk.r ?s1 ?s2); (case s1 => (omega)); (case s2 => (omega))) | ((with_reducible refine' MulOk.l ?s1 ?s2); (case s1 => (omega)); (case s2 => (omega))) | ((with_reducible refine' DivOk.small ?s1 ?s2); (case s1 => (omega)); (case s2 => (omega))) | ((with_reducible refine' PowOk.lit ?s1 ?s2 ?s3); (case s1 => (decide)); (case s2 => (decide)); (case s3 => (decide))) | omega | ((with_reducible refine' s_sz ?s1); (case s1 => (first | omega | (simp only [List.length_append, List.length_cons, List.length_nil, List.length_map, List.length_set, List.length_take, List.length_drop, List.length_dropLast] <;> omega)))) | ((with_reducible refine' s_szl ?s1); (case s1 => (first | omega | (simp only [List.length_append, List.length_cons, List.length_nil, List.length_map, List.length_set, List.length_take, List.length_drop, List.length_dropLast] <;> omega)))) | ke_read | ked_read | decide)
local macro_rules | `(tactic| ke_reads) => `(tactic| first | assumption | exact Ne.symm (by assumption) | omega | (simp only [List.length_append, List.length_cons, List.length_nil, List.length_set] at * <;> omega))
local macro_rules | `(tactic| ked_reads) => `(tactic| first | assumption | ((with_reducible refine' lt_of_get ?s1); (case s1 => (ked_read))))
local macro_rules | `(tactic| ked_read) => `(tactic| first | assumption | ((with_reducible refine' List.getElem?_set_self ?s1); (case s1 => (ked_reads))) | ((with_reducible refine' set_ne' ?s1 ?s2); (case s1 => (ke_reads)); (case s2 => (ked_read))) | exact (app_get0 _ _).trans rfl | exact (app_get _ _ _).trans rfl | ((with_reducible refine' app_l ?s1); (case s1 => (ked_read))))
local macro_rules | `(tactic| ke_read) => `(tactic| first | assumption | (apply getL_of; assumption) | ((with_reducible refine' getL_set_self ?s1); (case s1 => (ked_reads))) | exact getL_app00 _ _ _ | exact getL_app1 _ _ _ _ | ((with_reducible refine' getL_set_ne' ?s1 ?s2); (case s1 => (ke_reads)); (case s2 => (ke_read))) | ((with_reducible refine' getL_app_l ?s1); (case s1 => (ke_read))) | exact (getL_app _ _ _).trans rfl)
local macro_rules | `(tactic| kqd_all) => `(tactic| first | assumption | (rw [atI_m1]; first | with_unfolding_all rfl | assumption) | (rw [atI_lit]; first | with_unfolding_all rfl | assumption) | (rw [atI_cast]; assumption) | exact atI_ints (by omega) (by simp only [List.length_map] at *; omega))
local macro_rules | `(tactic| kct_strs) => `(tactic| first | assumption | (rw [ixN_lit, if_pos (by simp)]; done))
local macro_rules | `(tactic| kp_flats) => `(tactic| first | with_reducible refine q_let0 ?_ | with_reducible refine q_let1 ?_ | with_reducible refine q_let2 ?_ | with_reducible refine q_let3 ?_ | with_reducible refine q_let4 ?_ | with_reducible refine q_let5 ?_ | with_reducible refine q_let6 ?_ | with_reducible refine q_let7 ?_ | with_reducible refine q_let8 ?_ | with_reducible refine q_let9 ?_ | with_reducible refine q_let10 ?_ | with_reducible refine q_let11 ?_ | with_reducible refine q_let12 ?_ | with_reducible refine q_let13 ?_ | with_reducible refine q_let14 ?_ | with_reducible refine q_let15 ?_ | with_reducible refine q_let16 ?_ | with_reducible refine q_let17 ?_ | with_reducible refine q_let18 ?_ | with_reducible refine q_let19 ?_ | with_reducible refine q_let20 ?_ | with_reducible refine q_let21 ?_ | with_reducible refine q_let22 ?_ | with_reducible refine q_let23 ?_ | with_reducible refine q_let24 ?_ | with_reducible refine q_let25 ?_ | with_reducible refine q_let26 ?_ | with_reducible refine q_let27 ?_ | with_reducible refine q_let28 ?_ | with_reducible refine q_let29 ?_ | with_reducible refine q_let30 ?_ | with_reducible refine q_let31 ?_ | with_reducible refine q_let32 ?_ | with_reducible refine q_let33 ?_ | with_reducible refine q_let34 ?_ | with_reducible refine q_let35 ?_ | with_reducible refine q_let36 ?_ | with_reducible refine q_let37 ?_ | with_reducible refine q_let38 ?_ | with_reducible refine q_let39 ?_)
local macro_rules | `(tactic| tb_rel) => `(tactic| first | ((with_reducible show qLet _ _ _ _); kp_flats) | ((with_reducible refine' i_dt ?s1 ?_); (case s1 => (first | assumption | rfl))) | ((with_reducible refine' i_df ?s1 ?_); (case s1 => (assumption))) | ((with_reducible refine' i_nf ?s1 ?_); (case s1 => (first | assumption | rfl))) | ((with_reducible refine' i_nt ?s1 ?_); (case s1 => (assumption))) | ((with_reducible refine' i_t ?s1 ?_); (case s1 => (with_unfolding_all rfl))) | ((with_reducible refine' i_f ?s1 ?_); (case s1 => (with_unfolding_all rfl))) | ((with_reducible refine' q_ix_tup ?s1 ?_); (case s1 => (kqd_all))) | ((with_reducible refine' q_ix_ref ?s1 ?s2 ?_); (case s1 => (ke_read)); (case s2 => (kqd_all))) | ((with_reducible refine' q_eq_int ?_)) | ((with_reducible refine' q_ne_int ?_)) | ((with_reducible refine' q_eq_str ?s1 ?s2 ?_); (case s1 => (first | assumption | decide +kernel)); (case s2 => (first | assumption | decide +kernel))) | ((with_reducible refine' q_ne_str ?s1 ?s2 ?_); (case s1 => (first | assumption | decide +kernel)); (case s2 => (first | assumption | decide +kernel))) | ((with_reducible refine' q_len_tup ?_)) | ((with_reducible refine' q_len_ref ?s1 ?_); (case s1 => (ke_read))) | ((with_reducible refine' s_isml ?s1 ?_); (case s1 => (ke_read))) | ((with_reducible refine' q_append2 ?s1 ?s2 ?_); (case s1 => (ked_reads)); (case s2 => (tb_start))) | ((with_reducible refine' q_append0 ?s1 ?_); (case s1 => (tb_start))) | ((with_reducible refine' q_append1 ?s1 ?_); (case s1 => (tb_start))) | ((with_reducible refine' q_append ?s1 ?s2 ?_); (case s1 => (ked_read)); (case s2 => (tb_start))) | ((with_reducible refine' q_cat ?s1 ?s2 ?s3 ?_); (case s1 => (ked_read)); (case s2 => (ked_read)); (case s3 => (tb_start))) | ((with_reducible refine' q_pop0 ?s1 ?_); (case s1 => (ked_read))) | ((with_reducible refine' q_setL2 ?s1 ?s2 ?_); (case s1 => (ked_reads)); (case s2 => (kct_strs))) | ((with_reducible refine' q_setL ?s1 ?s2 ?_); (case s1 => (ked_read)); (case s2 => (kct_strs))) | ((with_reducible refine' q_tup_tup ?_)) | ((with_reducible refine' q_tup_ref ?s1 ?_); (case s1 => (ke_read))) | ((with_reducible refine' q_list_tup ?_)) | ((with_reducible refine' q_list_ref ?s1 ?_); (case s1 => (ke_read))) | ((with_reducible refine' q_sl_tupE ?s1 ?_); (case s1 => (assumption))) | ((with_reducible refine' q_sl_refE ?s1 ?s2 ?_); (case s1 => (ke_read)); (case s2 => (assumption))) | ((with_reducible refine' q_sl_tup ?_)) | ((with_reducible refine' q_sl_ref ?s1 ?_); (case s1 => (ke_read))) | ((with_reducible refine' s_enumI_tup ?_)) | ((with_reducible refine' s_enumI_ref ?s1 ?_); (case s1 => (ke_read))) | ((with_reducible refine' s_seqI_tup ?_)) | ((with_reducible refine' s_seqI_ref ?s1 ?_); (case s1 => (ke_read))) | ((with_reducible refine' q_eq_pn (d := 8) (e := 8) ?s1 ?s2 ?s3 ?s4 ?_); (case s1 => (lsm_bools)); (case s2 => (lsm_bools)); (case s3 => (first | decide | omega)); (case s4 => (first | decide | omega))) | ((with_reducible refine' q_ne_pn (d := 8) (e := 8) ?s1 ?s2 ?s3 ?s4 ?_); (case s1 => (lsm_bools)); (case s2 => (lsm_bools)); (case s3 => (first | decide | omega)); (case s4 => (first | decide | omega))) | ((with_reducible refine' q_eq_lpn (d := 8) (e := 8) ?s1 ?s2 ?s3 ?s4 ?s5 ?s6 ?_); (case s1 => (ke_read)); (case s2 => (ke_read)); (case s3 => (lsm_bools)); (case s4 => (lsm_bools)); (case s5 => (first | decide | omega)); (case s6 => (first | decide | omega))) | ((with_reducible refine' q_ne_lpn (d := 8) (e := 8) ?s1 ?s2 ?s3 ?s4 ?s5 ?s6 ?_); (case s1 => (ke_read)); (case s2 => (ke_read)); (case s3 => (lsm_bools)); (case s4 => (lsm_bools)); (case s5 => (first | decide | omega)); (case s6 => (first | decide | omega))) | ((with_reducible refine' q_is_non ?_)) | ((with_reducible refine' q_isnot_non ?_)) | ((with_reducible refine' q_eq_bl ?_)) | ((with_reducible refine' q_ne_bl ?_)) | ((with_reducible refine' q_isi ?s1 ?s2 ?_); (case s1 => (with_unfolding_all rfl)); (case s2 => (with_unfolding_all rfl))) | ((with_reducible refine' q_in_l (d := 8) (e := 8) ?s1 ?s2 ?s3 ?s4 ?s5 ?_); (case s1 => (ke_read)); (case s2 => (lsm_bools)); (case s3 => (lsm_bools)); (case s4 => (first | decide | omega)); (case s5 => (first | decide | omega))) | ((with_reducible refine' q_in_t (d := 8) (e := 8) ?s1 ?s2 ?s3 ?s4 ?_); (case s1 => (lsm_bools)); (case s2 => (lsm_bools)); (case s3 => (first | decide | omega)); (case s4 => (first | decide | omega))) | ((with_reducible refine' q_notin_l (d := 8) (e := 8) ?s1 ?s2 ?s3 ?s4 ?s5 ?_); (case s1 => (ke_read)); (case s2 => (lsm_bools)); (case s3 => (lsm_bools)); (case s4 => (first | decide | omega)); (case s5 => (first | decide | omega))) | ((with_reducible refine' q_notin_t (d := 8) (e := 8) ?s1 ?s2 ?s3 ?s4 ?_); (case s1 => (lsm_bools)); (case s2 => (lsm_bools)); (case s3 => (first | decide | omega)); (case s4 => (first | decide | omega))) | ((with_reducible refine' q_getL ?s1 ?s2 ?_); (case s1 => (ke_read)); (case s2 => (kqd_all))) | ((with_reducible refine' s_sum ?s1 ?_); (case s1 => (ke_read))) | ((with_reducible refine' s_lstRg ?s1 ?_); (case s1 => (tb_start))) | ((with_reducible refine' s_tupRg ?s1 ?_); (case s1 => (tb_start))) | ((with_reducible refine' s_rng3 ?s1 ?_); (case s1 => (assumption))) | ((with_reducible refine' s_zip_tup ?_)) | ((with_reducible refine' s_zip_ref ?s1 ?s2 ?_); (case s1 => (ke_read)); (case s2 => (ke_read))) | ((with_reducible refine' s_rev_tup ?_)) | ((with_reducible refine' s_rev_ref ?s1 ?_); (case s1 => (ke_read))) | ((with_reducible refine' q_push0 ?s1 ?_); (case s1 => (tb_start))) | ((with_reducible refine' q_push ?s1 ?s2 ?_); (case s1 => (ked_read)); (case s2 => (tb_start))) | ((with_reducible refine' s_rep ?s1 ?_); (case s1 => (ked_read))) | ((with_reducible refine' And.intro ?s1 ?_); (case s1 => (tb_start))))
local macro_rules | `(tactic| kbo_bools) => `(tactic| first | with_reducible refine i_d (fun _ => ?_) (fun _ => ?_) | with_reducible refine i_n (fun _ => ?_) (fun _ => ?_))
local macro_rules | `(tactic| keq_rows) => `(tactic| ((conv => whnf); repeat (tb_rel; (conv => whnf))))
local macro_rules | `(tactic| k_upd) => `(tactic| (keq_rows; try (kbo_bools <;> k_upd)))
local macro_rules | `(tactic| kat_tups) => `(tactic| (simp only [startL, List.map_cons, List.map_nil, List.length_cons, List.length_nil, Nat.zero_add, Nat.reduceAdd, Nat.reduceSub, List.reduceReplicate, List.cons_append, List.nil_append]; keq_rows))
local macro_rules | `(tactic| k_updF) => `(tactic| first | assumption | exact Keep.refl _ _ | exact Keep.app _ _ _ | ((with_reducible refine' Keep.app_r ?s1); (case s1 => (k_updF))) | ((with_reducible refine' Keep.set_in ?s1 ?s2); (case s1 => ((simp only [List.mem_cons, true_or, or_true]))); (case s2 => (k_updF))) | ((with_reducible refine' Keep.set_new ?s1 ?s2); (case s1 => (first | omega | (simp only [List.length_append, List.length_cons, List.length_nil, List.length_set] at * <;> omega))); (case s2 => (k_updF))) | exact Ext.keep (by assumption) | ((with_reducible refine' Keep.trans ?a (by assumption)); (case a => (k_updF))) | ((with_reducible refine' Keep.trans ?a (Ext.keep (by assumption))); (case a => (k_updF))))
local macro_rules | `(tactic| lsm_bools) => `(tactic| first | assumption | exact Pl.int _ _ | exact Pn.int _ _ | ((with_reducible refine' Pl.str _ _ ?s1); (case s1 => (first | assumption | decide +kernel))) | ((with_reducible refine' Pn.str _ _ ?s1); (case s1 => (first | assumption | decide +kernel))) | exact Pn.non _ | exact Pl.non _ | exact Pl.bl _ _ | exact Pns.nil _ | exact Pls.nil _ | ((with_reducible refine' Pls.cons ?s1 ?s2); (case s1 => (lsm_bools)); (case s2 => (lsm_bools))) | ((with_reducible refine' Pns.cons ?s1 ?s2); (case s1 => (lsm_bools)); (case s2 => (lsm_bools))) | ((with_reducible refine' Pl.tup ?s1 ?s2); (case s1 => (first | omega | (simp only [List.length_append, List.length_cons, List.length_nil, List.length_map, List.length_set, List.length_take, List.length_drop, List.length_dropLast] <;> omega))); (case s2 => (lsm_bools))) | ((with_reducible refine' Pn.tup ?s1 ?s2); (case s1 => (first | omega | (simp only [List.length_append, List.length_cons, List.length_nil, List.length_map, List.length_set, List.length_take, List.length_drop, List.length_dropLast] <;> omega))); (case s2 => (lsm_bools))))
theorem atI_row {t : List (List Int)} {i : Nat} {row : List Int} (h : t[i]? = some row) : atI (t.map wW) (i : Int) = some (wW row) := by rw [atI_cast, List.getElem?_map, h]; rfl
theorem pl_ints (xs : List Int) (h : xs.length ≤ 1000) : Pl 8 (wW xs) := Pl.tup (by rw [List.length_map]; omega) (Pls.of fun y hy => by
  obtain ⟨v, _, rfl⟩ := List.mem_map.mp hy
  exact .int _ _)
theorem bags_len (gates : List (List Int)) (tags d : Nat) (m : Int) : (bags gates tags d m).length ≤ tags := by
  have := List.length_filter_le (fun (t : Nat) => decide (0 ≤ (D gates t (-1)).getD d 0 ∧ (D gates t (-1)).getD d 0 ≤ m)) (List.range tags)
  rwa [List.length_range] at this
theorem mem_bags {gates : List (List Int)} {tags d t : Nat} {m : Int} (ht : t < tags) : t ∈ bags gates tags d m ↔ (0 ≤ (D gates t (-1)).getD d 0 ∧ (D gates t (-1)).getD d 0 ≤ m) := by
  unfold bags
  rw [List.mem_filter, decide_eq_true_eq, List.mem_range]
  exact ⟨fun h => h.2, fun h => ⟨ht, h⟩⟩
theorem bags_lt {gates : List (List Int)} {tags d t : Nat} {m : Int} (h : t ∈ bags gates tags d m) : t < tags := by
  unfold bags at h
  rw [List.mem_filter, List.mem_range] at h
  exact h.1
@[irreducible] def sp__law_bags_right : ZC := fun ws S K => ∃ n tags gates, ws = [wsW gates] ∧ Valid n tags gates ∧ ∀ S', Ext S S' → K (.bl true) S'
theorem c__law_bags_right {n tags : Nat} {gates : List (List Int)} {S : Store} {K : WK} (h1 : Valid n tags gates) (h : ∀ S', Ext S S' → K (.bl true) S') : sp__law_bags_right [wsW gates] S K := by unfold sp__law_bags_right; exact ⟨n, tags, gates, rfl, h1, h⟩
theorem u__law_bags_right (ws : List W) (S : Store) (K : WK) (h : sp__law_bags_right ws S K) (hl : ws.length = 1) : t__law_bags_right sp__law_near (sp__law_same 8) sp_whose_bag sp_may_come sp_misreads_to (EndK K) (startL 8 ws) S := by
  unfold sp__law_bags_right at h
  obtain ⟨n, tags, gates, rfl, hv, h⟩ := h
  obtain ⟨row, hr0, hrl, hat⟩ := first_row hv
  have hrl' : (row.map W.int).length = tags := by rw [List.length_map]; exact hrl
  have ht2 := hv.tsmall
  kat_tups
  rw [hrl', Int.toNat_natCast]
  refine lcXM (fun (i : Nat) => W.int (i : Int)) (List.range tags) (rangeW_map tags) (fun (t : Nat) => wW (D gates t (-1))) (fun _ _ => trivial) (s_sz (by rw [List.length_range]; omega)) ?_ ?_
  · intro i t S2 Kt ht k2 hK
    keq_rows
    refine c__law_near hv fun S3 k3 => ?_
    keq_rows
    exact hK _ k3
  intro S1 k1 e1
  have hnear : ∀ t : Nat, t < tags → atI ((List.range tags).map fun (t : Nat) => wW (D gates t (-1))) (t : Int) = some (wW (D gates t (-1))) := fun t ht => by
    rw [atI_cast, List.getElem?_map, List.getElem?_range ht]; rfl
  generalize S.length = q at *
  keq_rows
  refine forI (fun i L S' => ∃ (x4 x5 x6 x7 : Option W), L = [some (wsW gates), some (.int (tags : Int)), some (.ref q), none, x4, x5, x6, x7] ∧ Ext S1 S') ⟨_, _, _, _, rfl, Keep.refl _ _⟩ (fun _ _ _ _ => trivial) ?_ ?_
  · rintro d w L S2 hw ⟨x4, x5, x6, x7, rfl, k2⟩
    obtain ⟨hd, rfl⟩ := rangeW_inv0 hw
    have hd : d < 10 := hd
    have e2 := k2.get e1
    keq_rows
    refine forI (fun i L S' => ∃ (x6 x7 : Option W) (b : Option Int), L = [some (wsW gates), some (.int (tags : Int)), some (.ref q), none, some (.int (d : Nat)), some (wW (natsI (match b with | none => [] | some m => bags gates tags d m))), x6, x7] ∧ (∀ m, b = some m → ∀ m', ([0, 1, 2, 4, 10] : List Int)[i]? = some m' → m ≤ m') ∧ Ext S1 S' ∧ S'[S2.length]? = some (.lst (([0, 1, 2, 4, 10] : List Int).map W.int)))
      ⟨_, _, none, rfl, by simp, k2.trans (Keep.app _ _ _), (app_get0 _ _).trans rfl⟩ ?_ ?_ ?_
    · rintro i L S' ⟨x6, x7, b, rfl, _, _, e⟩
      exact getL_of e
    · rintro i w L S3 hw ⟨x6, x7, b, rfl, hb, k3, e3⟩
      have hw' : (([0, 1, 2, 4, 10] : List Int).map W.int)[i]? = some w := hw
      rw [List.getElem?_map, Option.map_eq_some_iff] at hw'
      obtain ⟨m, hm, rfl⟩ := hw'
      have e4 := k3.get e1
      have hlast : ∀ t ∈ (match b with | none => [] | some m => bags gates tags d m), t ∈ bags gates tags d m := fun t ht => by
        cases hbb : b with
        | none => rw [hbb] at ht; cases ht
        | some m0 =>
          rw [hbb] at ht
          have hle := hb m0 hbb m hm
          have hlt := bags_lt ht
          have := (mem_bags hlt).mp ht
          exact (mem_bags hlt).mpr ⟨this.1, by omega⟩
      have hlastl : (match b with | none => [] | some m => bags gates tags d m).length ≤ 10 := by
        cases b with
        | none => simp
        | some m0 => exact Nat.le_trans (bags_len _ _ _ _) ht2
      generalize (match b with | none => [] | some m => bags gates tags d m) = last at *
      have hll : ((natsI last).map W.int).length ≤ 10 := by rw [List.length_map, List.length_map]; exact hlastl
      keq_rows
      refine lcX (fun (i : Nat) => W.int (i : Int)) (List.range tags) (by rw [rangeW_map, Int.toNat_natCast]) (fun (t : Nat) => if decide (0 ≤ (D gates t (-1)).getD d 0 ∧ (D gates t (-1)).getD d 0 ≤ m) then some (.int (t : Int)) else none) (fun _ _ => trivial) (s_sz (by rw [List.length_range]; omega)) ?_ ?_
      · intro j t S4 Kt Kf ht k4 hK hK'
        obtain ⟨rfl, hj⟩ := range_at ht
        have hn := hnear t hj
        have e5 := k4.get e4
        have hat := atI_nat (xs := D gates t (-1)) (i := d) (by rw [D_len]; omega)
        by_cases h0 : 0 ≤ (D gates t (-1)).getD d 0
        · by_cases h1 : (D gates t (-1)).getD d 0 ≤ m
          · keq_rows
            exact hK _ _ (if_pos (decide_eq_true ⟨h0, h1⟩)) (Keep.refl _ _)
          · keq_rows
            exact hK' _ (if_neg fun z => h1 (of_decide_eq_true z).2) (Keep.refl _ _)
        · keq_rows
          exact hK' _ (if_neg fun z => h0 (of_decide_eq_true z).1) (Keep.refl _ _)
      intro S4 k4 e5
      rw [filterMap_if (fun (t : Nat) => decide (0 ≤ (D gates t (-1)).getD d 0 ∧ (D gates t (-1)).getD d 0 ≤ m)), nats_W] at e5
      replace e5 : S4[S3.length]? = some (.lst ((natsI (bags gates tags d m)).map W.int)) := e5
      have hpn := pns_ints (natsI (bags gates tags d m))
      keq_rows
      refine c_whose_bag hv hd fun S5 k5 => ?_
      keq_rows
      refine c__law_same (pl_ints _ (by rw [List.length_map]; have := bags_len gates tags d m; omega)) fun S6 k6 => ?_
      keq_rows
      refine lcX (fun (i : Nat) => W.int (i : Int)) last (nats_W last).symm (fun _ => none) (fun _ _ => trivial) (s_sz (by omega)) ?_ ?_
      · intro j t S7 Kt Kf ht k7 hK hK'
        have hin := mem_nats.mpr (hlast t (List.mem_of_getElem? ht))
        keq_rows
        exact hK' _ rfl (Keep.refl _ _)
      intro S7 k7 e7
      rw [show ∀ ys : List Nat, ys.filterMap (fun _ => (none : Option W)) = [] from fun ys => by induction ys with | nil => rfl | cons y ys ih => exact ih] at e7
      keq_rows
      refine lcX (fun (i : Nat) => W.int (i : Int)) (List.range tags) (by rw [rangeW_map, Int.toNat_natCast]) (fun _ => none) (fun _ _ => trivial) (s_sz (by rw [List.length_range]; omega)) ?_ ?_
      · intro j t S8 Kt Kf ht k8 hK hK'
        obtain ⟨rfl, hj⟩ := range_at ht
        keq_rows
        refine c_may_come hv fun S9 k9 => ?_
        have hpn2 := pns_ints (natsI (comes gates t m))
        have hiff : (W.int (d : Int) ∈ (natsI (comes gates t m)).map W.int) ↔ (W.int (t : Int) ∈ (natsI (bags gates tags d m)).map W.int) := by
          rw [mem_nats, mem_nats, mem_comes hd, mem_bags hj]
        by_cases hc : W.int (d : Int) ∈ (natsI (comes gates t m)).map W.int
        · have hb2 := hiff.mp hc
          keq_rows
          simp only [hc, hb2, decide_true, decide_false]
          keq_rows
          exact hK' _ rfl k9
        · have hb2 : ¬ W.int (t : Int) ∈ (natsI (bags gates tags d m)).map W.int := fun z => hc (hiff.mpr z)
          keq_rows
          simp only [hc, hb2, decide_true, decide_false]
          keq_rows
          exact hK' _ rfl k9
      intro S8 k8 e8
      rw [show ∀ ys : List Nat, ys.filterMap (fun _ => (none : Option W)) = [] from fun ys => by induction ys with | nil => rfl | cons y ys ih => exact ih] at e8
      have k38 : Ext S3 S8 := ((((k4.trans k5).trans k6).trans k7).trans (Keep.app _ _ _)).trans k8
      have e38 := k38.get e3
      keq_rows
      refine ⟨_, _, some m, rfl, fun m0 hm0 m' hm' => ?_, (k3.trans k38).trans (Keep.app _ _ _), app_l e38⟩
      cases hm0
      have asc : ∀ i : Nat, ∀ a b, ([0, 1, 2, 4, 10] : List Int)[i]? = some a → ([0, 1, 2, 4, 10] : List Int)[i + 1]? = some b → a ≤ b := by
        intro i a b h1 h2
        match i with
        | 0 => cases h1; cases h2; decide
        | 1 => cases h1; cases h2; decide
        | 2 => cases h1; cases h2; decide
        | 3 => cases h1; cases h2; decide
        | 4 => cases h2
        | i + 5 => simp at h1
      exact asc i _ _ hm hm'
    · rintro L S3 ⟨x6, x7, b, rfl, hb, k3, e3⟩
      keq_rows
      exact ⟨_, _, _, _, rfl, k3⟩
  · rintro L S2 ⟨x4, x5, x6, x7, rfl, k2⟩
    have e2 := k2.get e1
    keq_rows
    refine lcX (fun (i : Nat) => W.int (i : Int)) (List.range tags) (by rw [rangeW_map, Int.toNat_natCast]) (fun _ => none) (fun _ _ => trivial) (s_sz (by rw [List.length_range]; omega)) ?_ ?_
    · intro j t S3 Kt Kf ht k3 hK hK'
      obtain ⟨rfl, hj⟩ := range_at ht
      have hn := hnear t hj
      have e3 := k3.get e2
      keq_rows
      refine c_misreads_to hv fun S4 k4 => ?_
      have e4 := k4.get e3
      keq_rows
      refine c__law_same (pl_ints _ (by rw [D_len]; omega)) fun S5 k5 => ?_
      keq_rows
      exact hK' _ rfl (k4.trans k5)
    intro S3 k3 e3
    rw [show ∀ ys : List Nat, ys.filterMap (fun _ => (none : Option W)) = [] from fun ys => by induction ys with | nil => rfl | cons y ys ih => exact ih] at e3
    keq_rows
    simpa using h _ (((k1.trans k2).trans k3).trans (Keep.app _ _ _))
end L83

set_option maxHeartbeats 4000000
namespace L83
open PySem PySem.Spec PyProof.Rows L2 Z FS
local macro_rules | `(tactic| tb_start) => `(tactic| first | assumption | exact True.intro | exact ⟨_, _, rfl, by ke_read⟩ | ((with_reducible refine' MulOk.r ?s1 ?s2); (case s1 => (decide)); (case s2 => (decide))) | ((with_reducible refine' DivOk.any ?s1); (case s1 => (assumption))) | ((with_reducible refine' DivOk.small ?s1 ?s2); (case s1 => (decide)); (case s2 => (decide))) | ((with_reducible refine' MulOk.r ?s1 ?s2); (case s1 => (omega)); (case s2 => (omega))) | ((with_reducible refine' MulOk.l ?s1 ?s2); (case s1 => (omega)); (case s2 => (omega))) | ((with_reducible refine' DivOk.small ?s1 ?s2); (case s1 => (omega)); (case s2 => (omega))) | ((with_reducible refine' PowOk.lit ?s1 ?s2 ?s3); (case s1 => (decide)); (case s2 => (decide)); (case s3 => (decide))) | omega | ((with_reducible refine' s_sz ?s1); (case s1 => (first | omega | (simp only [List.length_append, List.length_cons, List.length_nil, List.length_map, List.length_set, List.length_take, List.length_drop, List.length_dropLast] <;> omega)))) | ((with_reducible refine' s_szl ?s1); (case s1 => (first | omega | (simp only [List.length_append, List.length_cons, List.length_nil, List.length_map, List.length_set, List.length_take, List.length_drop, List.length_dropLast] <;> omega)))) | ke_read | ked_read | decide)
local macro_rules | `(tactic| ke_reads) => `(tactic| first | assumption | exact Ne.symm (by assumption) | omega | (simp only [List.length_append, List.length_cons, List.length_nil, List.length_set] at * <;> omega))
local macro_rules | `(tactic| ked_reads) => `(tactic| first | assumption | ((with_reducible refine' lt_of_get ?s1); (case s1 => (ked_read))))
local macro_rules | `(tactic| ked_read) => `(tactic| first | assumption | ((with_reducible refine' List.getElem?_set_self ?s1); (case s1 => (ked_reads))) | ((with_reducible refine' set_ne' ?s1 ?s2); (case s1 => (ke_reads)); (case s2 => (ked_read))) | exact (app_get0 _ _).trans rfl | exact (app_get _ _ _).trans rfl | ((with_reducible refine' app_l ?s1); (case s1 => (ked_read))))
local macro_rules | `(tactic| ke_read) => `(tactic| first | assumption | (apply getL_of; assumption) | ((with_reducible refine' getL_set_self ?s1); (case s1 => (ked_reads))) | exact getL_app00 _ _ _ | exact getL_app1 _ _ _ _ | ((with_reducible refine' getL_set_ne' ?s1 ?s2); (case s1 => (ke_reads)); (case s2 => (ke_read))) | ((with_reducible refine' getL_app_l ?s1); (case s1 => (ke_read))) | exact (getL_app _ _ _).trans rfl)
local macro_rules | `(tactic| kqd_all) => `(tactic| first | assumption | (rw [atI_m1]; first | with_unfolding_all rfl | assumption) | (rw [atI_lit]; first | with_unfolding_all rfl | assumption) | (rw [atI_cast]; assumption) | exact atI_ints (by omega) (by simp only [List.length_map] at *; omega))
local macro_rules | `(tactic| kct_strs) => `(tactic| first | assumption | (rw [ixN_lit, if_pos (by simp)]; done))
local macro_rules | `(tactic| kp_flats) => `(tactic| first | with_reducible refine q_let0 ?_ | with_reducible refine q_let1 ?_ | with_reducible refine q_let2 ?_ | with_reducible refine q_let3 ?_ | with_reducible refine q_let4 ?_ | with_reducible refine q_let5 ?_ | with_reducible refine q_let6 ?_ | with_reducible refine q_let7 ?_ | with_reducible refine q_let8 ?_ | with_reducible refine q_let9 ?_ | with_reducible refine q_let10 ?_ | with_reducible refine q_let11 ?_ | with_reducible refine q_let12 ?_ | with_reducible refine q_let13 ?_ | with_reducible refine q_let14 ?_ | with_reducible refine q_let15 ?_ | with_reducible refine q_let16 ?_ | with_reducible refine q_let17 ?_ | with_reducible refine q_let18 ?_ | with_reducible refine q_let19 ?_ | with_reducible refine q_let20 ?_ | with_reducible refine q_let21 ?_ | with_reducible refine q_let22 ?_ | with_reducible refine q_let23 ?_ | with_reducible refine q_let24 ?_ | with_reducible refine q_let25 ?_ | with_reducible refine q_let26 ?_ | with_reducible refine q_let27 ?_ | with_reducible refine q_let28 ?_ | with_reducible refine q_let29 ?_ | with_reducible refine q_let30 ?_ | with_reducible refine q_let31 ?_ | with_reducible refine q_let32 ?_ | with_reducible refine q_let33 ?_ | with_reducible refine q_let34 ?_ | with_reducible refine q_let35 ?_ | with_reducible refine q_let36 ?_ | with_reducible refine q_let37 ?_ | with_reducible refine q_let38 ?_ | with_reducible refine q_let39 ?_)
local macro_rules | `(tactic| tb_rel) => `(tactic| first | ((with_reducible show qLet _ _ _ _); kp_flats) | ((with_reducible refine' i_dt ?s1 ?_); (case s1 => (first | assumption | rfl))) | ((with_reducible refine' i_df ?s1 ?_); (case s1 => (assumption))) | ((with_reducible refine' i_nf ?s1 ?_); (case s1 => (first | assumption | rfl))) | ((with_reducible refine' i_nt ?s1 ?_); (case s1 => (assumption))) | ((with_reducible refine' i_t ?s1 ?_); (case s1 => (with_unfolding_all rfl))) | ((with_reducible refine' i_f ?s1 ?_); (case s1 => (with_unfolding_all rfl))) | ((with_reducible refine' q_ix_tup ?s1 ?_); (case s1 => (kqd_all))) | ((with_reducible refine' q_ix_ref ?s1 ?s2 ?_); (case s1 => (ke_read)); (case s2 => (kqd_all))) | ((with_reducible refine' q_eq_int ?_)) | ((with_reducible refine' q_ne_int ?_)) | ((with_reducible refine' q_eq_str ?s1 ?s2 ?_); (case s1 => (first | assumption | decide +kernel)); (case s2 => (first | assumption | decide +kernel))) | ((with_reducible refine' q_ne_str ?s1 ?s2 ?_); (case s1 => (first | assumption | decide +kernel)); (case s2 => (first | assumption | decide +kernel))) | ((with_reducible refine' q_len_tup ?_)) | ((with_reducible refine' q_len_ref ?s1 ?_); (case s1 => (ke_read))) | ((with_reducible refine' s_isml ?s1 ?_); (case s1 => (ke_read))) | ((with_reducible refine' q_append2 ?s1 ?s2 ?_); (case s1 => (ked_reads)); (case s2 => (tb_start))) | ((with_reducible refine' q_append0 ?s1 ?_); (case s1 => (tb_start))) | ((with_reducible refine' q_append1 ?s1 ?_); (case s1 => (tb_start))) | ((with_reducible refine' q_append ?s1 ?s2 ?_); (case s1 => (ked_read)); (case s2 => (tb_start))) | ((with_reducible refine' q_cat ?s1 ?s2 ?s3 ?_); (case s1 => (ked_read)); (case s2 => (ked_read)); (case s3 => (tb_start))) | ((with_reducible refine' q_pop0 ?s1 ?_); (case s1 => (ked_read))) | ((with_reducible refine' q_setL2 ?s1 ?s2 ?_); (case s1 => (ked_reads)); (case s2 => (kct_strs))) | ((with_reducible refine' q_setL ?s1 ?s2 ?_); (case s1 => (ked_read)); (case s2 => (kct_strs))) | ((with_reducible refine' q_tup_tup ?_)) | ((with_reducible refine' q_tup_ref ?s1 ?_); (case s1 => (ke_read))) | ((with_reducible refine' q_list_tup ?_)) | ((with_reducible refine' q_list_ref ?s1 ?_); (case s1 => (ke_read))) | ((with_reducible refine' q_sl_tupE ?s1 ?_); (case s1 => (assumption))) | ((with_reducible refine' q_sl_refE ?s1 ?s2 ?_); (case s1 => (ke_read)); (case s2 => (assumption))) | ((with_reducible refine' q_sl_tup ?_)) | ((with_reducible refine' q_sl_ref ?s1 ?_); (case s1 => (ke_read))) | ((with_reducible refine' s_enumI_tup ?_)) | ((with_reducible refine' s_enumI_ref ?s1 ?_); (case s1 => (ke_read))) | ((with_reducible refine' s_seqI_tup ?_)) | ((with_reducible refine' s_seqI_ref ?s1 ?_); (case s1 => (ke_read))) | ((with_reducible refine' q_eq_pn (d := 8) (e := 8) ?s1 ?s2 ?s3 ?s4 ?_); (case s1 => (lsm_bools)); (case s2 => (lsm_bools)); (case s3 => (first | decide | omega)); (case s4 => (first | decide | omega))) | ((with_reducible refine' q_ne_pn (d := 8) (e := 8) ?s1 ?s2 ?s3 ?s4 ?_); (case s1 => (lsm_bools)); (case s2 => (lsm_bools)); (case s3 => (first | decide | omega)); (case s4 => (first | decide | omega))) | ((with_reducible refine' q_eq_lpn (d := 8) (e := 8) ?s1 ?s2 ?s3 ?s4 ?s5 ?s6 ?_); (case s1 => (ke_read)); (case s2 => (ke_read)); (case s3 => (lsm_bools)); (case s4 => (lsm_bools)); (case s5 => (first | decide | omega)); (case s6 => (first | decide | omega))) | ((with_reducible refine' q_ne_lpn (d := 8) (e := 8) ?s1 ?s2 ?s3 ?s4 ?s5 ?s6 ?_); (case s1 => (ke_read)); (case s2 => (ke_read)); (case s3 => (lsm_bools)); (case s4 => (lsm_bools)); (case s5 => (first | decide | omega)); (case s6 => (first | decide | omega))) | ((with_reducible refine' q_is_non ?_)) | ((with_reducible refine' q_isnot_non ?_)) | ((with_reducible refine' q_eq_bl ?_)) | ((with_reducible refine' q_ne_bl ?_)) | ((with_reducible refine' q_isi ?s1 ?s2 ?_); (case s1 => (with_unfolding_all rfl)); (case s2 => (with_unfolding_all rfl))) | ((with_reducible refine' q_in_l (d := 8) (e := 8) ?s1 ?s2 ?s3 ?s4 ?s5 ?_); (case s1 => (ke_read)); (case s2 => (lsm_bools)); (case s3 => (lsm_bools)); (case s4 => (first | decide | omega)); (case s5 => (first | decide | omega))) | ((with_reducible refine' q_in_t (d := 8) (e := 8) ?s1 ?s2 ?s3 ?s4 ?_); (case s1 => (lsm_bools)); (case s2 => (lsm_bools)); (case s3 => (first | decide | omega)); (case s4 => (first | decide | omega))) | ((with_reducible refine' q_notin_l (d := 8) (e := 8) ?s1 ?s2 ?s3 ?s4 ?s5 ?_); (case s1 => (ke_read)); (case s2 => (lsm_bools)); (case s3 => (lsm_bools)); (case s4 => (first | decide | omega)); (case s5 => (first | decide | omega))) | ((with_reducible refine' q_notin_t (d := 8) (e := 8) ?s1 ?s2 ?s3 ?s4 ?_); (case s1 => (lsm_bools)); (case s2 => (lsm_bools)); (case s3 => (first | decide | omega)); (case s4 => (first | decide | omega))) | ((with_reducible refine' q_getL ?s1 ?s2 ?_); (case s1 => (ke_read)); (case s2 => (kqd_all))) | ((with_reducible refine' s_sum ?s1 ?_); (case s1 => (ke_read))) | ((with_reducible refine' s_lstRg ?s1 ?_); (case s1 => (tb_start))) | ((with_reducible refine' s_tupRg ?s1 ?_); (case s1 => (tb_start))) | ((with_reducible refine' s_rng3 ?s1 ?_); (case s1 => (assumption))) | ((with_reducible refine' s_zip_tup ?_)) | ((with_reducible refine' s_zip_ref ?s1 ?s2 ?_); (case s1 => (ke_read)); (case s2 => (ke_read))) | ((with_reducible refine' s_rev_tup ?_)) | ((with_reducible refine' s_rev_ref ?s1 ?_); (case s1 => (ke_read))) | ((with_reducible refine' q_push0 ?s1 ?_); (case s1 => (tb_start))) | ((with_reducible refine' q_push ?s1 ?s2 ?_); (case s1 => (ked_read)); (case s2 => (tb_start))) | ((with_reducible refine' s_rep ?s1 ?_); (case s1 => (ked_read))) | ((with_reducible refine' And.intro ?s1 ?_); (case s1 => (tb_start))))
local macro_rules | `(tactic| kbo_bools) => `(tactic| first | with_reducible refine i_d (fun _ => ?_) (fun _ => ?_) | with_reducible refine i_n (fun _ => ?_) (fun _ => ?_))
local macro_rules | `(tactic| keq_rows) => `(tactic| ((conv => whnf); repeat (tb_rel; (conv => whnf))))
local macro_rules | `(tactic| k_upd) => `(tactic| (keq_rows; try (kbo_bools <;> k_upd)))
local macro_rules | `(tactic| kat_tups) => `(tactic| (simp only [startL, List.map_cons, List.map_nil, List.length_cons, List.length_nil, Nat.zero_add, Nat.reduceAdd, Nat.reduceSub, List.reduceReplicate, List.cons_append, List.nil_append]; keq_rows))
local macro_rules | `(tactic| k_updF) => `(tactic| first | assumption | exact Keep.refl _ _ | exact Keep.app _ _ _ | ((with_reducible refine' Keep.app_r ?s1); (case s1 => (k_updF))) | ((with_reducible refine' Keep.set_in ?s1 ?s2); (case s1 => ((simp only [List.mem_cons, true_or, or_true]))); (case s2 => (k_updF))) | ((with_reducible refine' Keep.set_new ?s1 ?s2); (case s1 => (first | omega | (simp only [List.length_append, List.length_cons, List.length_nil, List.length_set] at * <;> omega))); (case s2 => (k_updF))) | exact Ext.keep (by assumption) | ((with_reducible refine' Keep.trans ?a (by assumption)); (case a => (k_updF))) | ((with_reducible refine' Keep.trans ?a (Ext.keep (by assumption))); (case a => (k_updF))))
local macro_rules | `(tactic| lsm_bools) => `(tactic| first | assumption | exact Pl.int _ _ | exact Pn.int _ _ | ((with_reducible refine' Pl.str _ _ ?s1); (case s1 => (first | assumption | decide +kernel))) | ((with_reducible refine' Pn.str _ _ ?s1); (case s1 => (first | assumption | decide +kernel))) | exact Pn.non _ | exact Pl.non _ | exact Pl.bl _ _ | exact Pns.nil _ | exact Pls.nil _ | ((with_reducible refine' Pls.cons ?s1 ?s2); (case s1 => (lsm_bools)); (case s2 => (lsm_bools))) | ((with_reducible refine' Pns.cons ?s1 ?s2); (case s1 => (lsm_bools)); (case s2 => (lsm_bools))) | ((with_reducible refine' Pl.tup ?s1 ?s2); (case s1 => (first | omega | (simp only [List.length_append, List.length_cons, List.length_nil, List.length_map, List.length_set, List.length_take, List.length_drop, List.length_dropLast] <;> omega))); (case s2 => (lsm_bools))) | ((with_reducible refine' Pn.tup ?s1 ?s2); (case s1 => (first | omega | (simp only [List.length_append, List.length_cons, List.length_nil, List.length_map, List.length_set, List.length_take, List.length_drop, List.length_dropLast] <;> omega))); (case s2 => (lsm_bools))))
theorem natsI_len (xs : List Nat) : (natsI xs).length = xs.length := by rw [List.length_map]
theorem sure_len {gates : List (List Int)} {tag : Int} {d : Nat} : (sure gates tag d).length ≤ gates.length := by
  unfold sure
  split
  · simp
  · have := List.length_filter_le (fun (k : Nat) => decide (¬ (D gates tag k).getD d 0 = (D gates tag (-1)).getD d 0)) (List.range gates.length)
    rwa [List.length_range] at this
theorem valid_ahead {n tags : Nat} {gates : List (List Int)} (hv : Valid n tags gates) (h10 : n ≤ 10) : Valid (n + 1) tags (List.replicate tags 1 :: gates.map fun r => r.map sh) := by
  have := hv.pos
  refine ⟨by rw [List.length_cons, List.length_map, hv.len], by omega, by omega, hv.tpos, hv.tsmall, fun row hr => ?_⟩
  rcases List.mem_cons.mp hr with rfl | hr
  · refine ⟨List.length_replicate, fun to ht => ?_⟩
    have := List.eq_of_mem_replicate ht
    omega
  · obtain ⟨r, hr2, rfl⟩ := List.mem_map.mp hr
    obtain ⟨a, b⟩ := hv.row r hr2
    refine ⟨by rw [List.length_map]; exact a, fun to ht => ?_⟩
    obtain ⟨x, hx, rfl⟩ := List.mem_map.mp ht
    have := b x hx
    unfold sh
    split <;> omega
theorem valid_more {n tags : Nat} {gates : List (List Int)} {r : List Int} (hv : Valid n tags gates) (h10 : n ≤ 10) (hr : r ∈ gates) : Valid (n + 1) tags (gates ++ [r]) := by
  have := hv.pos
  refine ⟨by rw [List.length_append, hv.len]; rfl, by omega, by omega, hv.tpos, hv.tsmall, fun row hr' => ?_⟩
  have hm : row ∈ gates := by
    rcases List.mem_append.mp hr' with h | h
    · exact h
    · rw [List.mem_singleton.mp h]; exact hr
  obtain ⟨a, b⟩ := hv.row row hm
  exact ⟨a, fun to ht => by have := b to ht; omega⟩
@[irreducible] def sp__law_sure_right : ZC := fun ws S K => ∃ n tags gates, ws = [wsW gates] ∧ Valid n tags gates ∧ n ≤ 10 ∧ ∀ S', Ext S S' → K (.bl true) S'
theorem c__law_sure_right {n tags : Nat} {gates : List (List Int)} {S : Store} {K : WK} (h1 : Valid n tags gates) (h2 : n ≤ 10) (h : ∀ S', Ext S S' → K (.bl true) S') : sp__law_sure_right [wsW gates] S K := by unfold sp__law_sure_right; exact ⟨n, tags, gates, rfl, h1, h2, h⟩
theorem u__law_sure_right (ws : List W) (S : Store) (K : WK) (h : sp__law_sure_right ws S K) (hl : ws.length = 1) : t__law_sure_right sp__law_sure (sp__law_same 8) sp_sure_gates (EndK K) (startL 9 ws) S := by
  unfold sp__law_sure_right at h
  obtain ⟨n, tags, gates, rfl, hv, h10, h⟩ := h
  obtain ⟨row, hr0, hrl, hat⟩ := first_row hv
  have hrl' : (row.map W.int).length = tags := by rw [List.length_map]; exact hrl
  have ht2 := hv.tsmall
  have hgl : (gates.map wW).length = n := by rw [List.length_map]; exact hv.len
  have hn1 := hv.pos
  have hn2 := hv.small
  have hto : times [W.int 1] ((row.map W.int).length : Int) = (List.replicate tags 1).map W.int := by
    rw [hrl']
    unfold times
    rw [Int.toNat_natCast]
    clear hrl hrl' ht2 hv
    induction tags with
    | zero => rfl
    | succ k ih => rw [List.replicate_succ, List.flatten_cons, ih]; rfl
  obtain ⟨last, hlast⟩ : ∃ r, gates.getLast? = some r := ⟨_, List.getLast?_eq_getLast (by intro z; rw [z] at hr0; cases hr0)⟩
  have hlm : last ∈ gates := List.mem_of_getLast? hlast
  have hatl : atI (gates.map wW) (-1) = some (wW last) := by rw [atI_m1, List.getLast?_map, hlast]; rfl
  have hva := valid_ahead hv h10
  have hvm := valid_more hv h10 hlm
  kat_tups
  refine lcXM wW gates rfl (fun r => wW (r.map sh)) (fun _ _ => trivial) (s_sz (by rw [hv.len]; omega)) ?_ ?_
  · intro i r S2 Kt hr k2 hK
    obtain ⟨hrl, _⟩ := hv.row r (List.mem_of_getElem? hr)
    keq_rows
    refine lcXM W.int r rfl (fun to => .int (sh to)) (fun _ _ => trivial) (s_sz (by omega)) ?_ ?_
    · intro j to S3 Kt2 hto k3 hK2
      have := hK2 S3 (Keep.refl _ _)
      unfold sh at this
      by_cases hs : to ≥ 0
      · rw [if_pos hs] at this
        keq_rows
        exact this
      · rw [if_neg hs] at this
        keq_rows
        exact this
    intro S3 k3 e3
    keq_rows
    have := hK S3 k3
    rw [wW, List.map_map] at this
    exact this
  intro S2 k2 e2
  have hmm : (gates.map fun r => wW (r.map sh)) = (gates.map fun r => r.map sh).map wW := by rw [List.map_map]; rfl
  rw [hmm] at e2
  rw [hto] at e2 k2 ⊢
  have hll : ((gates.map fun r => r.map sh).map wW).length ≤ 10 := by rw [List.length_map, List.length_map, hv.len]; exact h10
  have hgl10 : gates.length ≤ 10 := by rw [hv.len]; exact h10
  have hmore : W.tup (gates.map wW ++ [wW last]) = wsW (gates ++ [last]) := by rw [wsW, List.map_append]; rfl
  keq_rows
  rw [show [W.tup ((List.replicate tags (1 : Int)).map W.int)] ++ (gates.map fun r => r.map sh).map wW = (List.replicate tags 1 :: gates.map fun r => r.map sh).map wW from rfl]
  generalize hah : (List.replicate tags (1 : Int) :: gates.map fun r => r.map sh) = ahead at *
  clear hmm e2
  keq_rows
  refine forI (fun i L S' => ∃ (x5 x6 x7 : Option W), L = [some (wsW gates), some (wsW ahead), none, none, some (.tup (gates.map wW ++ [wW last])), x5, x6, x7, none] ∧ Ext S S') ⟨_, _, _, rfl, ((Keep.app _ _ _).trans (Keep.app _ _ _)).trans k2⟩ (fun _ _ _ _ => trivial) ?_ ?_
  · rintro t w L S3 hw ⟨x5, x6, x7, rfl, k3⟩
    obtain ⟨ht, rfl⟩ := rangeW_inv0 hw
    rw [Int.toNat_natCast, hrl'] at ht
    keq_rows
    refine forI (fun i L S' => ∃ (x6 x7 : Option W), L = [some (wsW gates), some (wsW ahead), none, none, some (.tup (gates.map wW ++ [wW last])), some (.int (t : Nat)), x6, x7, none] ∧ Ext S S') ⟨_, _, rfl, k3⟩ (fun _ _ _ _ => trivial) ?_ ?_
    · rintro d w L S4 hw ⟨x6, x7, rfl, k4⟩
      obtain ⟨hd, rfl⟩ := rangeW_inv0 hw
      have hd : d < 10 := hd
      keq_rows
      refine c__law_sure hv hd fun S5 k5 => ?_
      keq_rows
      refine c_sure_gates hv hd fun S6 k6 => ?_
      have hsl : (natsI (sure gates t d)).length ≤ 20 := by rw [natsI_len]; have := sure_len (gates := gates) (tag := t) (d := d); rw [hv.len] at this; omega
      have hmr := sure_more hv last t d
      have hpt : Pn 8 (wW (natsI (sure gates t d))) := Pn.tup (by rw [List.length_map]; omega) (Pns.of fun x hx => by
        obtain ⟨y, _, rfl⟩ := List.mem_map.mp hx
        exact .int _ _)
      keq_rows
      refine c__law_same (pl_ints _ (by omega)) fun S7 k7 => ?_
      have k47 : Ext S S7 := ((k4.trans k5).trans k6).trans k7
      clear k5 k6 k7
      by_cases hne : sure gates t d = []
      · have hE : W.tup ((natsI (sure gates t d)).map W.int) = W.tup [] := by rw [hne]; rfl
        by_cases h9 : ((gates.map wW).length : Int) < 10
        · keq_rows
          rw [hmore]
          refine c_sure_gates hvm hd fun S9 k9 => ?_
          rw [hmr]
          keq_rows
          refine c__law_same (pl_ints _ (by omega)) fun S10 k10 => ?_
          keq_rows
          exact ⟨_, _, rfl, (k47.trans k9).trans k10⟩
        · keq_rows
          exact ⟨_, _, rfl, k47⟩
      · obtain ⟨r, hr⟩ := sure_first hv hd hne
        have hE : ¬ W.tup ((natsI (sure gates t d)).map W.int) = W.tup [] := by rw [hr]; intro z; cases z
        have hat0 : atI ((natsI (sure gates t d)).map W.int) 0 = some (.int 0) := by
          rw [hr, show (0 : Int) = ((0 : Nat) : Int) from rfl, atI_cast]; rfl
        have hsE : wW (natsI (sure ahead t d)) = .tup ([W.int 0] ++ ((sure gates t d).map fun (k : Nat) => W.int ((k : Int) + 1))) := by
          rw [← hah, sure_ahead hv ht hd hne]
          show W.tup _ = W.tup _
          congr 1
          rw [natsI, List.map_map, List.map_cons, List.map_map]
          rfl
        by_cases h9 : ((gates.map wW).length : Int) < 10
        · keq_rows
          refine c_sure_gates hva hd fun S9 k9 => ?_
          keq_rows
          refine lcXM (fun (i : Nat) => W.int (i : Int)) (sure gates t d) (nats_W _).symm (fun k => .int ((k : Int) + 1)) (fun _ _ => trivial) (s_sz (by rw [natsI_len] at hsl; omega)) ?_ ?_
          · intro j k S10 Kt hk k10 hK
            keq_rows
            exact hK _ (Keep.refl _ _)
          intro S10 k10 e10
          have hsl2 : (sure gates t d).length ≤ 20 := by rw [natsI_len] at hsl; exact hsl
          have hcl : ((sure gates t d).map fun (k : Nat) => W.int ((k : Int) + 1)).length ≤ 20 := by rw [List.length_map]; rw [natsI_len] at hsl; exact hsl
          keq_rows
          refine c__law_sameE hsE (pl_ints _ (by
            rw [natsI_len]
            have := sure_len (gates := ahead) (tag := t) (d := d)
            rw [hva.len] at this
            omega)) fun S11 k11 => ?_
          have k411 : Ext S S11 := ((k47.trans k9).trans k10).trans k11
          clear k9 k10 k11 e10
          keq_rows
          rw [hmore]
          refine c_sure_gates hvm hd fun S12 k12 => ?_
          rw [hmr]
          keq_rows
          refine c__law_same (pl_ints _ (by omega)) fun S13 k13 => ?_
          keq_rows
          exact ⟨_, _, rfl, (k411.trans k12).trans k13⟩
        · keq_rows
          exact ⟨_, _, rfl, k47⟩
    · rintro L S4 ⟨x6, x7, rfl, k4⟩
      keq_rows
      exact ⟨_, _, _, rfl, k4⟩
  · rintro L S3 ⟨x5, x6, x7, rfl, k3⟩
    keq_rows
    exact h _ k3

@[irreducible] def sp__law_belt : ZC := fun ws S K => ∃ (n g q many tags : Nat) (ds : List Int), ws = [.ref n, .int (many : Int), .int (tags : Int), .ref q] ∧ SrcOk S n g ∧ S[q]? = some (.lst (ds.map W.int)) ∧ q ≠ n ∧ q ≠ g ∧ 1 ≤ many ∧ many ≤ 10 ∧ 1 ≤ tags ∧ tags ≤ 10 ∧ 1 ≤ ds.length ∧ ds.length ≤ 10 ∧ (∀ x ∈ ds, 0 ≤ x ∧ x < 10) ∧
  ∀ gates S' g', Valid many tags gates → (g' = g ∨ S.length ≤ g') → Keep [n] S S' → SrcOk S' n g' → K (wsW gates) S'
theorem c__law_belt {n g q many tags : Nat} {ds : List Int} {S : Store} {K : WK} (h1 : SrcOk S n g) (h2 : S[q]? = some (.lst (ds.map W.int))) (h3 : q ≠ n) (h3' : q ≠ g) (h4 : 1 ≤ many) (h5 : many ≤ 10) (h6 : 1 ≤ tags) (h7 : tags ≤ 10) (h8 : 1 ≤ ds.length) (h9 : ds.length ≤ 10) (h10 : ∀ x ∈ ds, 0 ≤ x ∧ x < 10)
  (h : ∀ gates S' g', Valid many tags gates → (g' = g ∨ S.length ≤ g') → Keep [n] S S' → SrcOk S' n g' → K (wsW gates) S') : sp__law_belt [.ref n, .int (many : Int), .int (tags : Int), .ref q] S K := by unfold sp__law_belt; exact ⟨n, g, q, many, tags, ds, rfl, h1, h2, h3, h3', h4, h5, h6, h7, h8, h9, h10, h⟩
theorem u__law_belt (ws : List W) (S : Store) (K : WK) (h : sp__law_belt ws S K) (hl : ws.length = 4) : t__law_belt sp__law_pick sp__law_of (EndK K) (startL 9 ws) S := by
  unfold sp__law_belt at h
  obtain ⟨n, g, q, many, tags, ds, rfl, r0, hq, hqn, hqg, hm1, hm2, ht1, ht2, hd1, hd2, hd3, h⟩ := h
  have hlt := r0.lt
  have hql := lt_of_get hq
  kat_tups
  refine forI (fun i L S' => ∃ (x5 x6 x7 x8 : Option W) (gs : List (List Int)) (g' : Nat), L = [some (.ref n), some (.int (many : Int)), some (.int (tags : Int)), some (.ref q), some (.ref S.length), x5, x6, x7, x8] ∧ S'[S.length]? = some (.lst (gs.map wW)) ∧ S'[q]? = some (.lst (ds.map W.int)) ∧ gs.length = i ∧ (∀ row ∈ gs, row.length = tags ∧ ∀ to ∈ row, -10 ≤ to ∧ to < many) ∧ SrcOk S' n g' ∧ (g' = g ∨ S.length < g') ∧ Keep [n] S S')
    ⟨_, _, _, _, [], g, rfl, (app_get0 _ _).trans rfl, app_l hq, rfl, by simp, r0.ext (Keep.app _ _ _), .inl rfl, Keep.app _ _ _⟩ (fun _ _ _ _ => trivial) ?_ ?_
  · rintro i w L S2 hw ⟨x5, x6, x7, x8, gs, g2, rfl, h4, hq2, hgl, hgs, r2, hg2, k2⟩
    obtain ⟨hi, rfl⟩ := rangeW_inv0 hw
    rw [Int.toNat_natCast] at hi
    have hgl' : (gs.map wW).length ≤ 10 := by rw [List.length_map]; omega
    have h4l := lt_of_get h4
    have hlt2 := r2.lt
    keq_rows
    refine forI (fun j L S' => ∃ (x7 x8 : Option W) (row : List Int) (g' : Nat), L = [some (.ref n), some (.int (many : Int)), some (.int (tags : Int)), some (.ref q), some (.ref S.length), some (.int (i : Nat)), some (.ref S2.length), x7, x8] ∧ S'[S2.length]? = some (.lst (row.map W.int)) ∧ S'[S.length]? = some (.lst (gs.map wW)) ∧ S'[q]? = some (.lst (ds.map W.int)) ∧ row.length = j ∧ (∀ to ∈ row, -10 ≤ to ∧ to < many) ∧ SrcOk S' n g' ∧ (g' = g ∨ S.length < g') ∧ g' ≠ S2.length ∧ Keep [n] S S')
      ⟨_, _, [], g2, rfl, (app_get0 _ _).trans rfl, app_l h4, app_l hq2, rfl, by simp, r2.ext (Keep.app _ _ _), hg2, by omega, k2.trans (Keep.app _ _ _)⟩ (fun _ _ _ _ => trivial) ?_ ?_
    · rintro j w L S3 hw ⟨x7, x8, row, g3, rfl, h6, h4', hq3, hrl, hrow, r3, hg3, hgn, k3⟩
      obtain ⟨hj, rfl⟩ := rangeW_inv0 hw
      rw [Int.toNat_natCast] at hj
      have hrl' : (row.map W.int).length ≤ 10 := by rw [List.length_map]; omega
      have h6l := lt_of_get h6
      have hlt3 := r3.lt
      have fin : ∀ (S4 : Store) (g4 : Nat) (to : Int), -10 ≤ to → to < many → S4[S2.length]? = some (.lst (row.map W.int)) → S4[S.length]? = some (.lst (gs.map wW)) → S4[q]? = some (.lst (ds.map W.int)) → SrcOk S4 n g4 → (g4 = g ∨ S.length < g4) → g4 ≠ S2.length → Keep [n] S S4 →
          (S4.set S2.length (.lst (row.map W.int ++ [.int to])))[S2.length]? = some (.lst ((row ++ [to]).map W.int)) ∧ (S4.set S2.length (.lst (row.map W.int ++ [.int to])))[S.length]? = some (.lst (gs.map wW)) ∧ (S4.set S2.length (.lst (row.map W.int ++ [.int to])))[q]? = some (.lst (ds.map W.int)) ∧ (row ++ [to]).length = j + 1 ∧ (∀ x ∈ row ++ [to], -10 ≤ x ∧ x < many) ∧ SrcOk (S4.set S2.length (.lst (row.map W.int ++ [.int to]))) n g4 ∧ (g4 = g ∨ S.length < g4) ∧ g4 ≠ S2.length ∧ Keep [n] S (S4.set S2.length (.lst (row.map W.int ++ [.int to]))) := fun S4 g4 to a b c d e f gg hh kk => by
        refine ⟨?_, ?_, ?_, by simp [hrl], ?_, ?_, gg, hh, ?_⟩
        · rw [List.map_append]; exact List.getElem?_set_self (lt_of_get c)
        · rw [List.getElem?_set_ne (by omega)]; exact d
        · rw [List.getElem?_set_ne (by omega)]; exact e
        · intro x hx
          rcases List.mem_append.mp hx with hx | hx
          · exact hrow x hx
          · rw [List.mem_singleton.mp hx]; exact ⟨a, b⟩
        · exact f.keep (ms := [S2.length]) (Keep.set _ _ _) (by simp; omega) (by simp; omega)
        · exact Keep.set_new (by omega) kk
      by_cases hmi : (i : Int) + 1 < (many : Int)
      · keq_rows
        refine c__law_pick r3 (DivOk.small (by omega) (by omega)) fun r S4 g4 ra rb hg4 k4 r4 => ?_
        have c4 := k4 _ _ (by simp; omega) h6
        have d4 := k4 _ _ (by simp; omega) h4'
        have e4 := k4 _ _ (by simp; omega) hq3
        have hpos : (i : Int) + 1 + r > 0 := by omega
        have hlt4 := r4.lt
        have c4l := lt_of_get c4
        keq_rows
        refine c__law_pick r4 (DivOk.small (by decide) (by decide)) fun u S5 g5 ua ub hg5 k5 r5 => ?_
        have c5 := k5 _ _ (by simp; omega) c4
        have d5 := k5 _ _ (by simp; omega) d4
        have e5 := k5 _ _ (by simp; omega) e4
        have c5l := lt_of_get c5
        have k35 := (k3.trans k4).trans k5
        have hlt5 := r5.lt
        by_cases hu : u > 0
        · keq_rows
          exact ⟨_, _, row ++ [(i : Int) + 1 + r], g5, rfl, fin S5 g5 _ (by omega) (by omega) c5 d5 e5 r5 (by omega) (by omega) k35⟩
        · keq_rows
          refine c__law_of r5 (.inr ⟨q, rfl, getL_of e5, hqn⟩) (by rw [List.length_map]; omega) (by rw [List.length_map]; omega) fun x S9 g9 hx hg9 k9 r9 => ?_
          obtain ⟨o, ho, rfl⟩ := List.mem_map.mp hx
          have ho2 := hd3 o ho
          have c9 := k9 _ _ (by simp; omega) c5
          have d9 := k9 _ _ (by simp; omega) d5
          have e9 := k9 _ _ (by simp; omega) e5
          keq_rows
          exact ⟨_, _, row ++ [-1 - o], g9, rfl, fin S9 g9 (-1 - o) (by omega) (by omega) c9 d9 e9 r9 (by omega) (by omega) ((k35).trans k9)⟩
      · keq_rows
        refine c__law_of r3 (.inr ⟨q, rfl, getL_of hq3, hqn⟩) (by rw [List.length_map]; omega) (by rw [List.length_map]; omega) fun x S9 g9 hx hg9 k9 r9 => ?_
        obtain ⟨o, ho, rfl⟩ := List.mem_map.mp hx
        have ho2 := hd3 o ho
        have c9 := k9 _ _ (by simp; omega) h6
        have d9 := k9 _ _ (by simp; omega) h4'
        have e9 := k9 _ _ (by simp; omega) hq3
        keq_rows
        exact ⟨_, _, row ++ [-1 - o], g9, rfl, fin S9 g9 (-1 - o) (by omega) (by omega) c9 d9 e9 r9 (by omega) (by omega) ((k3).trans k9)⟩
    · rintro L S3 ⟨x7, x8, row, g3, rfl, h6, h4', hq3, hrl, hrow, r3, hg3, hgn, k3⟩
      rw [rangeW_length, Int.toNat_natCast] at hrl
      have h4l' := lt_of_get h4'
      keq_rows
      refine ⟨_, _, _, _, gs ++ [row], g3, rfl, ?_, ?_, by simp [hgl], ?_, ?_, hg3, ?_⟩
      · rw [List.map_append]; exact List.getElem?_set_self h4l'
      · rw [List.getElem?_set_ne (by omega)]; exact hq3
      · intro r hr
        rcases List.mem_append.mp hr with hr | hr
        · exact hgs r hr
        · rw [List.mem_singleton.mp hr]; exact ⟨hrl, hrow⟩
      · exact r3.keep (ms := [S.length]) (Keep.set _ _ _) (by simp; omega) (by simp; omega)
      · exact Keep.set_new (Nat.le_refl _) k3
  · rintro L S2 ⟨x5, x6, x7, x8, gs, g2, rfl, h4, hq2, hgl, hgs, r2, hg2, k2⟩
    rw [rangeW_length, Int.toNat_natCast] at hgl
    keq_rows
    exact h gs _ g2 ⟨hgl, hm1, by omega, ht1, ht2, hgs⟩ (by omega) k2 r2
end L83

set_option maxHeartbeats 4000000
namespace L83
open PySem PySem.Spec PyProof.Rows L2 Z FS
local macro_rules | `(tactic| tb_start) => `(tactic| first | assumption | exact True.intro | exact ⟨_, _, rfl, by ke_read⟩ | ((with_reducible refine' MulOk.r ?s1 ?s2); (case s1 => (decide)); (case s2 => (decide))) | ((with_reducible refine' DivOk.any ?s1); (case s1 => (assumption))) | ((with_reducible refine' DivOk.small ?s1 ?s2); (case s1 => (decide)); (case s2 => (decide))) | ((with_reducible refine' MulOk.r ?s1 ?s2); (case s1 => (omega)); (case s2 => (omega))) | ((with_reducible refine' MulOk.l ?s1 ?s2); (case s1 => (omega)); (case s2 => (omega))) | ((with_reducible refine' DivOk.small ?s1 ?s2); (case s1 => (omega)); (case s2 => (omega))) | ((with_reducible refine' PowOk.lit ?s1 ?s2 ?s3); (case s1 => (decide)); (case s2 => (decide)); (case s3 => (decide))) | omega | ((with_reducible refine' s_sz ?s1); (case s1 => (first | omega | (simp only [List.length_append, List.length_cons, List.length_nil, List.length_map, List.length_set, List.length_take, List.length_drop, List.length_dropLast] <;> omega)))) | ((with_reducible refine' s_szl ?s1); (case s1 => (first | omega | (simp only [List.length_append, List.length_cons, List.length_nil, List.length_map, List.length_set, List.length_take, List.length_drop, List.length_dropLast] <;> omega)))) | ke_read | ked_read | decide)
local macro_rules | `(tactic| ke_reads) => `(tactic| first | assumption | exact Ne.symm (by assumption) | omega | (simp only [List.length_append, List.length_cons, List.length_nil, List.length_set] at * <;> omega))
local macro_rules | `(tactic| ked_reads) => `(tactic| first | assumption | ((with_reducible refine' lt_of_get ?s1); (case s1 => (ked_read))))
local macro_rules | `(tactic| ked_read) => `(tactic| first | assumption | ((with_reducible refine' List.getElem?_set_self ?s1); (case s1 => (ked_reads))) | ((with_reducible refine' set_ne' ?s1 ?s2); (case s1 => (ke_reads)); (case s2 => (ked_read))) | exact (app_get0 _ _).trans rfl | exact (app_get _ _ _).trans rfl | ((with_reducible refine' app_l ?s1); (case s1 => (ked_read))))
local macro_rules | `(tactic| ke_read) => `(tactic| first | assumption | (apply getL_of; assumption) | ((with_reducible refine' getL_set_self ?s1); (case s1 => (ked_reads))) | exact getL_app00 _ _ _ | exact getL_app1 _ _ _ _ | ((with_reducible refine' getL_set_ne' ?s1 ?s2); (case s1 => (ke_reads)); (case s2 => (ke_read))) | ((with_reducible refine' getL_app_l ?s1); (case s1 => (ke_read))) | exact (getL_app _ _ _).trans rfl)
local macro_rules | `(tactic| kqd_all) => `(tactic| first | assumption | (rw [atI_m1]; first | with_unfolding_all rfl | assumption) | (rw [atI_lit]; first | with_unfolding_all rfl | assumption) | (rw [atI_cast]; assumption) | exact atI_ints (by omega) (by simp only [List.length_map] at *; omega))
local macro_rules | `(tactic| kct_strs) => `(tactic| first | assumption | (rw [ixN_lit, if_pos (by simp)]; done))
local macro_rules | `(tactic| kp_flats) => `(tactic| first | with_reducible refine q_let0 ?_ | with_reducible refine q_let1 ?_ | with_reducible refine q_let2 ?_ | with_reducible refine q_let3 ?_ | with_reducible refine q_let4 ?_ | with_reducible refine q_let5 ?_ | with_reducible refine q_let6 ?_ | with_reducible refine q_let7 ?_ | with_reducible refine q_let8 ?_ | with_reducible refine q_let9 ?_ | with_reducible refine q_let10 ?_ | with_reducible refine q_let11 ?_ | with_reducible refine q_let12 ?_ | with_reducible refine q_let13 ?_ | with_reducible refine q_let14 ?_ | with_reducible refine q_let15 ?_ | with_reducible refine q_let16 ?_ | with_reducible refine q_let17 ?_ | with_reducible refine q_let18 ?_ | with_reducible refine q_let19 ?_ | with_reducible refine q_let20 ?_ | with_reducible refine q_let21 ?_ | with_reducible refine q_let22 ?_ | with_reducible refine q_let23 ?_ | with_reducible refine q_let24 ?_ | with_reducible refine q_let25 ?_ | with_reducible refine q_let26 ?_ | with_reducible refine q_let27 ?_ | with_reducible refine q_let28 ?_ | with_reducible refine q_let29 ?_ | with_reducible refine q_let30 ?_ | with_reducible refine q_let31 ?_ | with_reducible refine q_let32 ?_ | with_reducible refine q_let33 ?_ | with_reducible refine q_let34 ?_ | with_reducible refine q_let35 ?_ | with_reducible refine q_let36 ?_ | with_reducible refine q_let37 ?_ | with_reducible refine q_let38 ?_ | with_reducible refine q_let39 ?_)
local macro_rules | `(tactic| tb_rel) => `(tactic| first | ((with_reducible show qLet _ _ _ _); kp_flats) | ((with_reducible refine' i_dt ?s1 ?_); (case s1 => (first | assumption | rfl))) | ((with_reducible refine' i_df ?s1 ?_); (case s1 => (assumption))) | ((with_reducible refine' i_nf ?s1 ?_); (case s1 => (first | assumption | rfl))) | ((with_reducible refine' i_nt ?s1 ?_); (case s1 => (assumption))) | ((with_reducible refine' i_t ?s1 ?_); (case s1 => (with_unfolding_all rfl))) | ((with_reducible refine' i_f ?s1 ?_); (case s1 => (with_unfolding_all rfl))) | ((with_reducible refine' q_ix_tup ?s1 ?_); (case s1 => (kqd_all))) | ((with_reducible refine' q_ix_ref ?s1 ?s2 ?_); (case s1 => (ke_read)); (case s2 => (kqd_all))) | ((with_reducible refine' q_eq_int ?_)) | ((with_reducible refine' q_ne_int ?_)) | ((with_reducible refine' q_eq_str ?s1 ?s2 ?_); (case s1 => (first | assumption | decide +kernel)); (case s2 => (first | assumption | decide +kernel))) | ((with_reducible refine' q_ne_str ?s1 ?s2 ?_); (case s1 => (first | assumption | decide +kernel)); (case s2 => (first | assumption | decide +kernel))) | ((with_reducible refine' q_len_tup ?_)) | ((with_reducible refine' q_len_ref ?s1 ?_); (case s1 => (ke_read))) | ((with_reducible refine' s_isml ?s1 ?_); (case s1 => (ke_read))) | ((with_reducible refine' q_append2 ?s1 ?s2 ?_); (case s1 => (ked_reads)); (case s2 => (tb_start))) | ((with_reducible refine' q_append0 ?s1 ?_); (case s1 => (tb_start))) | ((with_reducible refine' q_append1 ?s1 ?_); (case s1 => (tb_start))) | ((with_reducible refine' q_append ?s1 ?s2 ?_); (case s1 => (ked_read)); (case s2 => (tb_start))) | ((with_reducible refine' q_cat ?s1 ?s2 ?s3 ?_); (case s1 => (ked_read)); (case s2 => (ked_read)); (case s3 => (tb_start))) | ((with_reducible refine' q_pop0 ?s1 ?_); (case s1 => (ked_read))) | ((with_reducible refine' q_setL2 ?s1 ?s2 ?_); (case s1 => (ked_reads)); (case s2 => (kct_strs))) | ((with_reducible refine' q_setL ?s1 ?s2 ?_); (case s1 => (ked_read)); (case s2 => (kct_strs))) | ((with_reducible refine' q_tup_tup ?_)) | ((with_reducible refine' q_tup_ref ?s1 ?_); (case s1 => (ke_read))) | ((with_reducible refine' q_list_tup ?_)) | ((with_reducible refine' q_list_ref ?s1 ?_); (case s1 => (ke_read))) | ((with_reducible refine' q_sl_tupE ?s1 ?_); (case s1 => (assumption))) | ((with_reducible refine' q_sl_refE ?s1 ?s2 ?_); (case s1 => (ke_read)); (case s2 => (assumption))) | ((with_reducible refine' q_sl_tup ?_)) | ((with_reducible refine' q_sl_ref ?s1 ?_); (case s1 => (ke_read))) | ((with_reducible refine' s_enumI_tup ?_)) | ((with_reducible refine' s_enumI_ref ?s1 ?_); (case s1 => (ke_read))) | ((with_reducible refine' s_seqI_tup ?_)) | ((with_reducible refine' s_seqI_ref ?s1 ?_); (case s1 => (ke_read))) | ((with_reducible refine' q_eq_pn (d := 8) (e := 8) ?s1 ?s2 ?s3 ?s4 ?_); (case s1 => (lsm_bools)); (case s2 => (lsm_bools)); (case s3 => (first | decide | omega)); (case s4 => (first | decide | omega))) | ((with_reducible refine' q_ne_pn (d := 8) (e := 8) ?s1 ?s2 ?s3 ?s4 ?_); (case s1 => (lsm_bools)); (case s2 => (lsm_bools)); (case s3 => (first | decide | omega)); (case s4 => (first | decide | omega))) | ((with_reducible refine' q_eq_lpn (d := 8) (e := 8) ?s1 ?s2 ?s3 ?s4 ?s5 ?s6 ?_); (case s1 => (ke_read)); (case s2 => (ke_read)); (case s3 => (lsm_bools)); (case s4 => (lsm_bools)); (case s5 => (first | decide | omega)); (case s6 => (first | decide | omega))) | ((with_reducible refine' q_ne_lpn (d := 8) (e := 8) ?s1 ?s2 ?s3 ?s4 ?s5 ?s6 ?_); (case s1 => (ke_read)); (case s2 => (ke_read)); (case s3 => (lsm_bools)); (case s4 => (lsm_bools)); (case s5 => (first | decide | omega)); (case s6 => (first | decide | omega))) | ((with_reducible refine' q_is_non ?_)) | ((with_reducible refine' q_isnot_non ?_)) | ((with_reducible refine' q_eq_bl ?_)) | ((with_reducible refine' q_ne_bl ?_)) | ((with_reducible refine' q_isi ?s1 ?s2 ?_); (case s1 => (with_unfolding_all rfl)); (case s2 => (with_unfolding_all rfl))) | ((with_reducible refine' q_in_l (d := 8) (e := 8) ?s1 ?s2 ?s3 ?s4 ?s5 ?_); (case s1 => (ke_read)); (case s2 => (lsm_bools)); (case s3 => (lsm_bools)); (case s4 => (first | decide | omega)); (case s5 => (first | decide | omega))) | ((with_reducible refine' q_in_t (d := 8) (e := 8) ?s1 ?s2 ?s3 ?s4 ?_); (case s1 => (lsm_bools)); (case s2 => (lsm_bools)); (case s3 => (first | decide | omega)); (case s4 => (first | decide | omega))) | ((with_reducible refine' q_notin_l (d := 8) (e := 8) ?s1 ?s2 ?s3 ?s4 ?s5 ?_); (case s1 => (ke_read)); (case s2 => (lsm_bools)); (case s3 => (lsm_bools)); (case s4 => (first | decide | omega)); (case s5 => (first | decide | omega))) | ((with_reducible refine' q_notin_t (d := 8) (e := 8) ?s1 ?s2 ?s3 ?s4 ?_); (case s1 => (lsm_bools)); (case s2 => (lsm_bools)); (case s3 => (first | decide | omega)); (case s4 => (first | decide | omega))) | ((with_reducible refine' q_getL ?s1 ?s2 ?_); (case s1 => (ke_read)); (case s2 => (kqd_all))) | ((with_reducible refine' s_sum ?s1 ?_); (case s1 => (ke_read))) | ((with_reducible refine' s_lstRg ?s1 ?_); (case s1 => (tb_start))) | ((with_reducible refine' s_tupRg ?s1 ?_); (case s1 => (tb_start))) | ((with_reducible refine' s_rng3 ?s1 ?_); (case s1 => (assumption))) | ((with_reducible refine' s_zip_tup ?_)) | ((with_reducible refine' s_zip_ref ?s1 ?s2 ?_); (case s1 => (ke_read)); (case s2 => (ke_read))) | ((with_reducible refine' s_rev_tup ?_)) | ((with_reducible refine' s_rev_ref ?s1 ?_); (case s1 => (ke_read))) | ((with_reducible refine' q_push0 ?s1 ?_); (case s1 => (tb_start))) | ((with_reducible refine' q_push ?s1 ?s2 ?_); (case s1 => (ked_read)); (case s2 => (tb_start))) | ((with_reducible refine' s_rep ?s1 ?_); (case s1 => (ked_read))) | ((with_reducible refine' And.intro ?s1 ?_); (case s1 => (tb_start))))
local macro_rules | `(tactic| kbo_bools) => `(tactic| first | with_reducible refine i_d (fun _ => ?_) (fun _ => ?_) | with_reducible refine i_n (fun _ => ?_) (fun _ => ?_))
local macro_rules | `(tactic| keq_rows) => `(tactic| ((conv => whnf); repeat (tb_rel; (conv => whnf))))
local macro_rules | `(tactic| k_upd) => `(tactic| (keq_rows; try (kbo_bools <;> k_upd)))
local macro_rules | `(tactic| kat_tups) => `(tactic| (simp only [startL, List.map_cons, List.map_nil, List.length_cons, List.length_nil, Nat.zero_add, Nat.reduceAdd, Nat.reduceSub, List.reduceReplicate, List.cons_append, List.nil_append]; keq_rows))
local macro_rules | `(tactic| k_updF) => `(tactic| first | assumption | exact Keep.refl _ _ | exact Keep.app _ _ _ | ((with_reducible refine' Keep.app_r ?s1); (case s1 => (k_updF))) | ((with_reducible refine' Keep.set_in ?s1 ?s2); (case s1 => ((simp only [List.mem_cons, true_or, or_true]))); (case s2 => (k_updF))) | ((with_reducible refine' Keep.set_new ?s1 ?s2); (case s1 => (first | omega | (simp only [List.length_append, List.length_cons, List.length_nil, List.length_set] at * <;> omega))); (case s2 => (k_updF))) | exact Ext.keep (by assumption) | ((with_reducible refine' Keep.trans ?a (by assumption)); (case a => (k_updF))) | ((with_reducible refine' Keep.trans ?a (Ext.keep (by assumption))); (case a => (k_updF))))
local macro_rules | `(tactic| lsm_bools) => `(tactic| first | assumption | exact Pl.int _ _ | exact Pn.int _ _ | ((with_reducible refine' Pl.str _ _ ?s1); (case s1 => (first | assumption | decide +kernel))) | ((with_reducible refine' Pn.str _ _ ?s1); (case s1 => (first | assumption | decide +kernel))) | exact Pn.non _ | exact Pl.non _ | exact Pl.bl _ _ | exact Pns.nil _ | exact Pls.nil _ | ((with_reducible refine' Pls.cons ?s1 ?s2); (case s1 => (lsm_bools)); (case s2 => (lsm_bools))) | ((with_reducible refine' Pns.cons ?s1 ?s2); (case s1 => (lsm_bools)); (case s2 => (lsm_bools))) | ((with_reducible refine' Pl.tup ?s1 ?s2); (case s1 => (first | omega | (simp only [List.length_append, List.length_cons, List.length_nil, List.length_map, List.length_set, List.length_take, List.length_drop, List.length_dropLast] <;> omega))); (case s2 => (lsm_bools))) | ((with_reducible refine' Pn.tup ?s1 ?s2); (case s1 => (first | omega | (simp only [List.length_append, List.length_cons, List.length_nil, List.length_map, List.length_set, List.length_take, List.length_drop, List.length_dropLast] <;> omega))); (case s2 => (lsm_bools))))
theorem times_int (x : Int) (k : Nat) : times [W.int x] (k : Int) = (List.replicate k x).map W.int := by
  unfold times
  rw [Int.toNat_natCast]
  induction k with
  | zero => rfl
  | succ k ih => rw [List.replicate_succ, List.flatten_cons, ih]; rfl
theorem valid_alike {n tags : Nat} {gates : List (List Int)} (hv : Valid n tags gates) {a : Nat} (ha : a < n) {x : Int} {row : List Int} (hr : row ∈ gates) (hx : x ∈ row) : Valid n tags (gates.take a ++ [List.replicate tags x] ++ gates.drop (a + 1)) := by
  have hl := hv.len
  refine ⟨by rw [List.length_append, List.length_append, List.length_take, List.length_drop]; simp only [List.length_cons, List.length_nil]; omega, hv.pos, hv.small, hv.tpos, hv.tsmall, fun r hr' => ?_⟩
  rcases List.mem_append.mp hr' with h | h
  · rcases List.mem_append.mp h with h | h
    · exact hv.row r (List.mem_of_mem_take h)
    · rw [List.mem_singleton.mp h]
      exact ⟨List.length_replicate, fun to ht => by rw [List.eq_of_mem_replicate ht]; exact (hv.row row hr).2 x hx⟩
  · exact hv.row r (List.mem_of_mem_drop h)
@[irreducible] def sp_law : ZC := fun ws S K => ∃ ns : List Int, ws = [.ref 0] ∧ IsLst S 0 (ns.map W.int) ∧ ∀ S', K (.bl true) S'
theorem u_law (ws : List W) (S : Store) (K : WK) (h : sp_law ws S K) (hl : ws.length = 1) : t_law sp__law_source sp__law_pick sp__law_stirred sp__law_belt sp__law_bags_right sp__law_sure_right (EndK K) (startL 7 ws) S := by
  unfold sp_law at h
  obtain ⟨ns, rfl, h0, h⟩ := h
  kat_tups
  refine c__law_source h0 fun n g S1 k1 _ _ r1 => ?_
  keq_rows
  refine c__law_pick r1 (DivOk.small (by decide) (by decide)) fun a S2 g2 a1 a2 _ k2 r2 => ?_
  keq_rows
  refine c__law_pick r2 (DivOk.small (by decide) (by decide)) fun b S3 g3 b1 b2 _ k3 r3 => ?_
  obtain ⟨tags, htg⟩ : ∃ k : Nat, 1 + a = (k : Int) := ⟨(1 + a).toNat, by omega⟩
  obtain ⟨many, hmn⟩ : ∃ k : Nat, 1 + b = (k : Int) := ⟨(1 + b).toNat, by omega⟩
  clear k1 k2 k3 r1 r2 h0
  have hlt3 := r3.lt
  keq_rows
  rw [htg, hmn]
  refine c__law_stirred (r3.ext (Keep.app _ _ _)) (.inr ⟨_, rfl, getL_app00 _ _ _, by omega⟩) (by rw [rangeW_length]; decide) fun ys S4 q g4 hperm hg4 hgq k4 r4 hq e4 => ?_
  obtain ⟨ds, rfl, hdl, hds⟩ := list_of W.int (fun _ x => 0 ≤ x ∧ x < 10) (ys := ys) fun i y hy => by
    have := hperm.mem_iff.mp (List.mem_of_getElem? hy)
    obtain ⟨j, hj⟩ := List.mem_iff_getElem?.mp this
    obtain ⟨hj10, rfl⟩ := rangeW_inv0 hj
    have hj10 : j < 10 := hj10
    exact ⟨_, rfl, by omega, by omega⟩
  have hpl := hperm.length_eq
  rw [rangeW_length] at hpl
  have hpl : (ds.map W.int).length = 10 := hpl
  rw [List.length_map] at hpl
  clear hperm
  have hlt4 := r4.lt
  have hql := lt_of_get e4
  have hqn : q ≠ n := by simp at hq; omega
  keq_rows
  refine c__law_pick r4 (DivOk.small (by decide) (by decide)) fun c S5 g5 c1 c2 hg5 k5 r5 => ?_
  have e5 := k5 q _ (by simp; exact hqn) e4
  obtain ⟨m, hm⟩ : ∃ k : Nat, 1 + c = (k : Int) := ⟨(1 + c).toNat, by omega⟩
  have hcut : cut (ds.map W.int) none (some (1 + c)) = (ds.take m).map W.int := by rw [hm, cut_to, List.map_take]
  have hlt5 := r5.lt
  keq_rows
  refine c__law_belt (r5.ext (Keep.app _ _ _)) ((app_get0 _ _).trans rfl) (by omega) (by omega) (by omega) (by omega) (by omega) (by omega) (by rw [List.length_take]; omega) (by rw [List.length_take]; omega) (fun x hx => by
    obtain ⟨i, hi⟩ := List.mem_iff_getElem?.mp (List.mem_of_mem_take hx)
    exact hds i x hi) fun gates S6 g6 hv _ k6 r6 => ?_
  have hmany : many ≤ 10 := by omega
  have fin : ∀ (S7 : Store) (gs : List (List Int)) , Valid many tags gs → sp__law_bags_right [wsW gs] S7 fun x S8 => x = .bl true := fun S7 gs hv7 => c__law_bags_right hv7 fun S8 _ => rfl
  clear fin e4 e5 k4 k5 k6 hcut
  keq_rows
  refine c__law_pick r6 (DivOk.small (by decide) (by decide)) fun u S7 g7 u1 u2 _ k7 r7 => ?_
  by_cases hu : u = 0
  · keq_rows
    refine c__law_pick r7 (DivOk.small (by have := hv.pos; omega) (by omega)) fun al S8 g8 l1 l2 _ k8 r8 => ?_
    obtain ⟨p, rfl⟩ : ∃ k : Nat, al = (k : Int) := ⟨al.toNat, by omega⟩
    have hp : p < gates.length := by rw [hv.len]; omega
    obtain ⟨row, hrow⟩ : ∃ row, gates[p]? = some row := ⟨_, List.getElem?_eq_getElem hp⟩
    have hrl := (hv.row row (List.mem_of_getElem? hrow)).1
    have h0r : 0 < row.length := by rw [hrl]; exact hv.tpos
    have hat := atI_row hrow
    have hat0 : atI (row.map W.int) 0 = some (.int (row.getD 0 0)) := by
      have := atI_nat (xs := row) (i := 0) h0r
      exact this
    have hx : row.getD 0 0 ∈ row := by rw [List.getD_eq_getElem?_getD, List.getElem?_eq_getElem h0r]; exact List.getElem_mem h0r
    have hva := valid_alike hv (a := p) (by omega) (List.mem_of_getElem? hrow) hx
    have hc1 : cut (gates.map wW) none (some (p : Int)) = (gates.take p).map wW := by rw [cut_to, List.map_take]
    have hc2 : cut (gates.map wW) (some ((p : Int) + 1)) none = (gates.drop (p + 1)).map wW := by rw [show (p : Int) + 1 = ((p + 1 : Nat) : Int) by omega, cut_from, List.map_drop]
    have hgl := hv.len
    have hl1 : ((gates.take p).map wW).length ≤ 20 := by rw [List.length_map, List.length_take]; omega
    have hl2 : ((gates.drop (p + 1)).map wW).length ≤ 20 := by rw [List.length_map, List.length_drop]; omega
    have hne : ∀ x : Int, [W.int x] ≠ [] := fun x => List.cons_ne_nil _ _
    have hne0 := hne (row.getD 0 0)
    have htm := times_int (row.getD 0 0) tags
    have hall : (gates.take p).map wW ++ [W.tup (times [W.int (row.getD 0 0)] (tags : Int))] ++ (gates.drop (p + 1)).map wW = (gates.take p ++ [List.replicate tags (row.getD 0 0)] ++ gates.drop (p + 1)).map wW := by
      rw [htm, List.map_append, List.map_append]; rfl
    have hts := hv.tsmall
    generalize row.getD 0 0 = x0 at *
    have hne1 : [W.int x0].length ≤ 1000 := by simp
    have hne2 : [W.tup (times [W.int x0] (tags : Int))].length = 1 := rfl
    keq_rows
    rw [hall]
    refine c__law_bags_right hva fun S9 k9 => ?_
    keq_rows
    refine c__law_sure_right hva hmany fun S10 k10 => ?_
    keq_rows
    exact h _
  · keq_rows
    refine c__law_bags_right hv fun S9 k9 => ?_
    keq_rows
    refine c__law_sure_right hv hmany fun S10 k10 => ?_
    keq_rows
    exact h _
end L83

set_option maxHeartbeats 4000000
namespace L83
open PySem PySem.Spec PyProof.Rows L2 Z FS
section
variable {l : PySem.W.OpenLaw} {w : World} {K : PySem.W.Frag} {h : Heap} {mg : Str → Option Value} {fa : Addr}
theorem all_mk (X : K.In h) (G : h.Ns mainGlobals mg) (hfa : mg "law" = some (.ref fa))
    {c_may_come P_may_come c_whose_bag P_whose_bag c_sure_gates P_sure_gates : Addr}
    (d__law_source : DefAt K "_law_source" s__law_source)
    (d__law_pick : DefAt K "_law_pick" s__law_pick)
    (d__law_of : DefAt K "_law_of" s__law_of)
    (d__law_stirred : DefAt K "_law_stirred" s__law_stirred)
    (d__law_same : DefAt K "_law_same" s__law_same)
    (d_lesser_told : DefAt K "lesser_told" s_lesser_told)
    (d_misreads_past : DefAt K "misreads_past" s_misreads_past)
    (d_misreads_to : DefAt K "misreads_to" s_misreads_to)
    (d_may_come : DefTab K "may_come" s_may_come c_may_come P_may_come)
    (d_whose_bag : DefTab K "whose_bag" s_whose_bag c_whose_bag P_whose_bag)
    (d_sure_gates : DefTab K "sure_gates" s_sure_gates c_sure_gates P_sure_gates)
    (d__law_belt : DefAt K "_law_belt" s__law_belt)
    (d__law_misreads : DefAt K "_law_misreads" s__law_misreads)
    (d__law_near : DefAt K "_law_near" s__law_near)
    (d__law_sure : DefAt K "_law_sure" s__law_sure)
    (d__law_bags_right : DefAt K "_law_bags_right" s__law_bags_right)
    (d__law_sure_right : DefAt K "_law_sure_right" s__law_sure_right)
    (d_law : DefAt K "law" s_law)
    (z_abs : PySem.W.nsIn K mainGlobals "abs" = some none)
    (z_bool : PySem.W.nsIn K mainGlobals "bool" = some none)
    (z_enumerate : PySem.W.nsIn K mainGlobals "enumerate" = some none)
    (z_int : PySem.W.nsIn K mainGlobals "int" = some none)
    (z_isinstance : PySem.W.nsIn K mainGlobals "isinstance" = some none)
    (z_len : PySem.W.nsIn K mainGlobals "len" = some none)
    (z_list : PySem.W.nsIn K mainGlobals "list" = some none)
    (z_min : PySem.W.nsIn K mainGlobals "min" = some none)
    (z_range : PySem.W.nsIn K mainGlobals "range" = some none)
    (z_str : PySem.W.nsIn K mainGlobals "str" = some none)
    (z_tuple : PySem.W.nsIn K mainGlobals "tuple" = some none)
    : ∃ cs : List (Str × Addr × Addr), cs.map (·.1) = [("may_come" : Str), ("whose_bag" : Str), ("sure_gates" : Str)] ∧ (∀ p ∈ cs, PySem.W.tabIn K p.1 = some p.2 ∧ K.lookup p.2.2 = none) ∧ ∃ fd : FuncData, (∀ (s : Shared) (v : Value), BindsTo s fd ⟨[v], []⟩ [("script", v)]) ∧ ∀ base : Heap, K.In base → base.Ns mainGlobals mg → (∀ p ∈ cs, LamX.TabB base mg p.2.1 p.2.2) → FnOk l.prog w K mg base CX0 11 fa fd ["script"] (spT K (cs.map (·.2.2))) := by
  have hB : Bl mg := ⟨PySem.W.mg_none_of X G z_abs, PySem.W.mg_none_of X G z_bool, PySem.W.mg_none_of X G z_enumerate, PySem.W.mg_none_of X G z_int, PySem.W.mg_none_of X G z_isinstance, PySem.W.mg_none_of X G z_len, PySem.W.mg_none_of X G z_list, PySem.W.mg_none_of X G z_min, PySem.W.mg_none_of X G z_range, PySem.W.mg_none_of X G z_str, PySem.W.mg_none_of X G z_tuple⟩
  obtain ⟨f__law_source, fd__law_source, F__law_source, m__law_source⟩ := d__law_source.fn X G
  obtain ⟨f__law_pick, fd__law_pick, F__law_pick, m__law_pick⟩ := d__law_pick.fn X G
  obtain ⟨f__law_of, fd__law_of, F__law_of, m__law_of⟩ := d__law_of.fn X G
  obtain ⟨f__law_stirred, fd__law_stirred, F__law_stirred, m__law_stirred⟩ := d__law_stirred.fn X G
  obtain ⟨f__law_same, fd__law_same, F__law_same, m__law_same⟩ := d__law_same.fn X G
  obtain ⟨f_lesser_told, fd_lesser_told, F_lesser_told, m_lesser_told⟩ := d_lesser_told.fn X G
  obtain ⟨f_misreads_past, fd_misreads_past, F_misreads_past, m_misreads_past⟩ := d_misreads_past.fn X G
  obtain ⟨f_misreads_to, fd_misreads_to, F_misreads_to, m_misreads_to⟩ := d_misreads_to.fn X G
  obtain ⟨f_may_come, fd_may_come, F_may_come, m_may_come, e_may_come⟩ := d_may_come.fn X G
  obtain ⟨f_whose_bag, fd_whose_bag, F_whose_bag, m_whose_bag, e_whose_bag⟩ := d_whose_bag.fn X G
  obtain ⟨f_sure_gates, fd_sure_gates, F_sure_gates, m_sure_gates, e_sure_gates⟩ := d_sure_gates.fn X G
  obtain ⟨f__law_belt, fd__law_belt, F__law_belt, m__law_belt⟩ := d__law_belt.fn X G
  obtain ⟨f__law_misreads, fd__law_misreads, F__law_misreads, m__law_misreads⟩ := d__law_misreads.fn X G
  obtain ⟨f__law_near, fd__law_near, F__law_near, m__law_near⟩ := d__law_near.fn X G
  obtain ⟨f__law_sure, fd__law_sure, F__law_sure, m__law_sure⟩ := d__law_sure.fn X G
  obtain ⟨f__law_bags_right, fd__law_bags_right, F__law_bags_right, m__law_bags_right⟩ := d__law_bags_right.fn X G
  obtain ⟨f__law_sure_right, fd__law_sure_right, F__law_sure_right, m__law_sure_right⟩ := d__law_sure_right.fn X G
  obtain ⟨f_law, fd_law, F_law, m_law⟩ := d_law.fn X G
  cases hfa.symm.trans m_law
  refine ⟨[(("may_come" : Str), c_may_come, P_may_come), (("whose_bag" : Str), c_whose_bag, P_whose_bag), (("sure_gates" : Str), c_sure_gates, P_sure_gates)], rfl, fun p hp => ?_, fd_law, bind1 F_law (fun _ _ _ _ _ _ _ => rfl), fun base _ _ hT => ?_⟩
  · rcases List.mem_cons.mp hp with rfl | hp
    · exact ⟨d_may_come.tab, d_may_come.new⟩
    rcases List.mem_cons.mp hp with rfl | hp
    · exact ⟨d_whose_bag.tab, d_whose_bag.new⟩
    rcases List.mem_cons.mp hp with rfl | hp
    · exact ⟨d_sure_gates.tab, d_sure_gates.new⟩
    cases hp
  have T_may_come : LamX.TabB base mg c_may_come P_may_come := hT ("may_come", c_may_come, P_may_come) (List.mem_cons_self)
  have M_may_come : P_may_come ∈ [P_may_come, P_whose_bag, P_sure_gates] := List.mem_cons_self
  have T_whose_bag : LamX.TabB base mg c_whose_bag P_whose_bag := hT ("whose_bag", c_whose_bag, P_whose_bag) (List.mem_cons_of_mem _ (List.mem_cons_self))
  have M_whose_bag : P_whose_bag ∈ [P_may_come, P_whose_bag, P_sure_gates] := List.mem_cons_of_mem _ (List.mem_cons_self)
  have T_sure_gates : LamX.TabB base mg c_sure_gates P_sure_gates := hT ("sure_gates", c_sure_gates, P_sure_gates) (List.mem_cons_of_mem _ (List.mem_cons_of_mem _ (List.mem_cons_self)))
  have M_sure_gates : P_sure_gates ∈ [P_may_come, P_whose_bag, P_sure_gates] := List.mem_cons_of_mem _ (List.mem_cons_of_mem _ (List.mem_cons_self))
  show FnOk l.prog w K mg base CX0 11 fa fd_law ["script"] (spT K [P_may_come, P_whose_bag, P_sure_gates])
  have B__law_source := F__law_source.binds (ps := ["script"]) fun _ _ _ _ _ _ us hl => match us, hl with | [_], _ => rfl
  have C__law_source : Cal l.prog w K mg base [P_may_come, P_whose_bag, P_sure_gates] 1 "_law_source" 1 _ := ⟨f__law_source, fd__law_source, _, rfl, fn_z F__law_source sc__law_source (fun cdv A outer s H E hr => b__law_source hB cdv A outer s H E hr) FS.u__law_source, m__law_source, F__law_source.kp, B__law_source⟩
  have B__law_pick := F__law_pick.binds (ps := ["source", "many"]) fun _ _ _ _ _ _ us hl => match us, hl with | [_, _], _ => rfl
  have C__law_pick : Cal l.prog w K mg base [P_may_come, P_whose_bag, P_sure_gates] 1 "_law_pick" 2 _ := ⟨f__law_pick, fd__law_pick, _, rfl, fn_z F__law_pick sc__law_pick (fun cdv A outer s H E hr => b__law_pick hB cdv A outer s H E hr) FS.u__law_pick, m__law_pick, F__law_pick.kp, B__law_pick⟩
  have B__law_of := F__law_of.binds (ps := ["source", "row"]) fun _ _ _ _ _ _ us hl => match us, hl with | [_, _], _ => rfl
  have C__law_of : Cal l.prog w K mg base [P_may_come, P_whose_bag, P_sure_gates] 2 "_law_of" 2 _ := ⟨f__law_of, fd__law_of, _, rfl, fn_z F__law_of sc__law_of (fun cdv A outer s H E hr => b__law_of hB (C__law_pick.mono (by decide)) cdv A outer s H E hr) FS.u__law_of, m__law_of, F__law_of.kp, B__law_of⟩
  have B__law_stirred := F__law_stirred.binds (ps := ["source", "row"]) fun _ _ _ _ _ _ us hl => match us, hl with | [_, _], _ => rfl
  have C__law_stirred : Cal l.prog w K mg base [P_may_come, P_whose_bag, P_sure_gates] 2 "_law_stirred" 2 _ := ⟨f__law_stirred, fd__law_stirred, _, rfl, fn_z F__law_stirred sc__law_stirred (fun cdv A outer s H E hr => b__law_stirred hB (C__law_pick.mono (by decide)) cdv A outer s H E hr) FS.u__law_stirred, m__law_stirred, F__law_stirred.kp, B__law_stirred⟩
  have B__law_same := F__law_same.binds (ps := ["told", "due"]) fun _ _ _ _ _ _ us hl => match us, hl with | [_, _], _ => rfl
  have CR__law_same : ∀ d, Cal l.prog w K mg base [P_may_come, P_whose_bag, P_sure_gates] (d + 1) "_law_same" 2 (sp__law_same d) := by
    intro d
    induction d with
    | zero => exact ⟨f__law_same, fd__law_same, _, rfl, fn_z F__law_same sc__law_same (fun cdv A outer s H E hr => b__law_same hB ⟨f__law_same, fd__law_same, _, rfl, zfn_false, m__law_same, F__law_same.kp, B__law_same⟩ cdv A outer s H E hr) (FS.u__law_same 0 (fun _ _ _ => False) (fun e h => by omega)), m__law_same, F__law_same.kp, B__law_same⟩
    | succ d ih => exact ⟨f__law_same, fd__law_same, _, rfl, (fn_z F__law_same sc__law_same (fun cdv A outer s H E hr => b__law_same hB ih cdv A outer s H E hr) (FS.u__law_same (d + 1) (sp__law_same d) (fun e h => by cases h; rfl))).mono (by omega), m__law_same, F__law_same.kp, B__law_same⟩
  have C__law_same := CR__law_same 8
  have B_lesser_told := F_lesser_told.binds (ps := ["told", "number"]) fun _ _ _ _ _ _ us hl => match us, hl with | [_, _], _ => rfl
  have C_lesser_told : Cal l.prog w K mg base [P_may_come, P_whose_bag, P_sure_gates] 1 "lesser_told" 2 _ := ⟨f_lesser_told, fd_lesser_told, _, rfl, fn_z F_lesser_told sc_lesser_told (fun cdv A outer s H E hr => b_lesser_told hB cdv A outer s H E hr) u_lesser_told, m_lesser_told, F_lesser_told.kp, B_lesser_told⟩
  have B_misreads_past := F_misreads_past.binds (ps := ["gates", "tag", "shut"]) fun _ _ _ _ _ _ us hl => match us, hl with | [_, _, _], _ => rfl
  have C_misreads_past : Cal l.prog w K mg base [P_may_come, P_whose_bag, P_sure_gates] 2 "misreads_past" 3 _ := ⟨f_misreads_past, fd_misreads_past, _, rfl, fn_z F_misreads_past sc_misreads_past (fun cdv A outer s H E hr => b_misreads_past hB (C_lesser_told.mono (by decide)) cdv A outer s H E hr) u_misreads_past, m_misreads_past, F_misreads_past.kp, B_misreads_past⟩
  have B_misreads_to := F_misreads_to.binds (ps := ["gates", "tag"]) fun _ _ _ _ _ _ us hl => match us, hl with | [_, _], _ => rfl
  have C_misreads_to : Cal l.prog w K mg base [P_may_come, P_whose_bag, P_sure_gates] 3 "misreads_to" 2 _ := ⟨f_misreads_to, fd_misreads_to, _, rfl, fn_z F_misreads_to sc_misreads_to (fun cdv A outer s H E hr => b_misreads_to (C_misreads_past.mono (by decide)) cdv A outer s H E hr) u_misreads_to, m_misreads_to, F_misreads_to.kp, B_misreads_to⟩
  have B_may_come := F_may_come.binds (ps := ["gates", "tag", "misreads"]) fun _ _ _ _ _ _ us hl => match us, hl with | [_, _, _], _ => rfl
  have C_may_come : Cal l.prog w K mg base [P_may_come, P_whose_bag, P_sure_gates] 5 "may_come" 3 _ := ⟨f_may_come, fd_may_come, _, rfl, fn_zT F_may_come sc_may_come (fun cdv A outer s H E hr hc => b_may_come hB (C_misreads_to.mono (by decide)) cdv A outer s H E hr (zroot (hc.trans e_may_come) M_may_come T_may_come)) u_may_come, m_may_come, F_may_come.kp, B_may_come⟩
  have B_whose_bag := F_whose_bag.binds (ps := ["gates", "door", "misreads"]) fun _ _ _ _ _ _ us hl => match us, hl with | [_, _, _], _ => rfl
  have C_whose_bag : Cal l.prog w K mg base [P_may_come, P_whose_bag, P_sure_gates] 7 "whose_bag" 3 _ := ⟨f_whose_bag, fd_whose_bag, _, rfl, fn_zT F_whose_bag sc_whose_bag (fun cdv A outer s H E hr hc => b_whose_bag hB (C_may_come.mono (by decide)) cdv A outer s H E hr (zroot (hc.trans e_whose_bag) M_whose_bag T_whose_bag)) u_whose_bag, m_whose_bag, F_whose_bag.kp, B_whose_bag⟩
  have B_sure_gates := F_sure_gates.binds (ps := ["gates", "tag", "door"]) fun _ _ _ _ _ _ us hl => match us, hl with | [_, _, _], _ => rfl
  have C_sure_gates : Cal l.prog w K mg base [P_may_come, P_whose_bag, P_sure_gates] 5 "sure_gates" 3 _ := ⟨f_sure_gates, fd_sure_gates, _, rfl, fn_zT F_sure_gates sc_sure_gates (fun cdv A outer s H E hr hc => b_sure_gates hB (C_misreads_to.mono (by decide)) (C_misreads_past.mono (by decide)) cdv A outer s H E hr (zroot (hc.trans e_sure_gates) M_sure_gates T_sure_gates)) u_sure_gates, m_sure_gates, F_sure_gates.kp, B_sure_gates⟩
  have KW_sure_gates : CalK l.prog w K mg base [P_may_come, P_whose_bag, P_sure_gates] 5 "sure_gates" 3 ["door", "tag", "gates"] [2,1,0] _ := ⟨f_sure_gates, fd_sure_gates, _, rfl, fn_zT F_sure_gates sc_sure_gates (fun cdv A outer s H E hr hc => b_sure_gates hB (C_misreads_to.mono (by decide)) (C_misreads_past.mono (by decide)) cdv A outer s H E hr (zroot (hc.trans e_sure_gates) M_sure_gates T_sure_gates)) u_sure_gates, m_sure_gates, F_sure_gates.kp, bindsK F_sure_gates (by intro _ _ _ _ _ _ ws hl; match ws, hl with | _ :: _ :: _ :: _, _ => exact rfl | [], hl => exact absurd hl (by simp [pick]) | [_], hl => exact absurd hl (by simp [pick]) | [_, _], hl => exact absurd hl (by simp [pick]))⟩
  have B__law_belt := F__law_belt.binds (ps := ["source", "many", "tags", "doors"]) fun _ _ _ _ _ _ us hl => match us, hl with | [_, _, _, _], _ => rfl
  have C__law_belt : Cal l.prog w K mg base [P_may_come, P_whose_bag, P_sure_gates] 3 "_law_belt" 4 _ := ⟨f__law_belt, fd__law_belt, _, rfl, fn_z F__law_belt sc__law_belt (fun cdv A outer s H E hr => b__law_belt hB (C__law_pick.mono (by decide)) (C__law_of.mono (by decide)) cdv A outer s H E hr) u__law_belt, m__law_belt, F__law_belt.kp, B__law_belt⟩
  have B__law_misreads := F__law_misreads.binds (ps := ["gates", "tag", "gone"]) fun _ _ _ _ _ _ us hl => match us, hl with | [_, _, _], _ => rfl
  have C__law_misreads : Cal l.prog w K mg base [P_may_come, P_whose_bag, P_sure_gates] 1 "_law_misreads" 3 _ := ⟨f__law_misreads, fd__law_misreads, _, rfl, fn_z F__law_misreads sc__law_misreads (fun cdv A outer s H E hr => b__law_misreads hB cdv A outer s H E hr) u__law_misreads, m__law_misreads, F__law_misreads.kp, B__law_misreads⟩
  have B__law_near := F__law_near.binds (ps := ["gates", "tag"]) fun _ _ _ _ _ _ us hl => match us, hl with | [_, _], _ => rfl
  have C__law_near : Cal l.prog w K mg base [P_may_come, P_whose_bag, P_sure_gates] 2 "_law_near" 2 _ := ⟨f__law_near, fd__law_near, _, rfl, fn_z F__law_near sc__law_near (fun cdv A outer s H E hr => b__law_near hB (C__law_misreads.mono (by decide)) cdv A outer s H E hr) u__law_near, m__law_near, F__law_near.kp, B__law_near⟩
  have B__law_sure := F__law_sure.binds (ps := ["gates", "tag", "door"]) fun _ _ _ _ _ _ us hl => match us, hl with | [_, _, _], _ => rfl
  have C__law_sure : Cal l.prog w K mg base [P_may_come, P_whose_bag, P_sure_gates] 3 "_law_sure" 3 _ := ⟨f__law_sure, fd__law_sure, _, rfl, fn_z F__law_sure sc__law_sure (fun cdv A outer s H E hr => b__law_sure hB (C__law_near.mono (by decide)) (C__law_misreads.mono (by decide)) cdv A outer s H E hr) u__law_sure, m__law_sure, F__law_sure.kp, B__law_sure⟩
  have B__law_bags_right := F__law_bags_right.binds (ps := ["gates"]) fun _ _ _ _ _ _ us hl => match us, hl with | [_], _ => rfl
  have C__law_bags_right : Cal l.prog w K mg base [P_may_come, P_whose_bag, P_sure_gates] 10 "_law_bags_right" 1 _ := ⟨f__law_bags_right, fd__law_bags_right, _, rfl, fn_z F__law_bags_right sc__law_bags_right (fun cdv A outer s H E hr => b__law_bags_right hB (C__law_near.mono (by decide)) (C__law_same.mono (by decide)) (C_whose_bag.mono (by decide)) (C_may_come.mono (by decide)) (C_misreads_to.mono (by decide)) cdv A outer s H E hr) u__law_bags_right, m__law_bags_right, F__law_bags_right.kp, B__law_bags_right⟩
  have B__law_sure_right := F__law_sure_right.binds (ps := ["gates"]) fun _ _ _ _ _ _ us hl => match us, hl with | [_], _ => rfl
  have C__law_sure_right : Cal l.prog w K mg base [P_may_come, P_whose_bag, P_sure_gates] 10 "_law_sure_right" 1 _ := ⟨f__law_sure_right, fd__law_sure_right, _, rfl, fn_z F__law_sure_right sc__law_sure_right (fun cdv A outer s H E hr => b__law_sure_right hB (C__law_sure.mono (by decide)) (C__law_same.mono (by decide)) (C_sure_gates.mono (by decide)) (KW_sure_gates.mono (by decide)) cdv A outer s H E hr) u__law_sure_right, m__law_sure_right, F__law_sure_right.kp, B__law_sure_right⟩
  exact law_spT (fn_z F_law sc_law (fun cdv A outer s H E hr => b_law hB (C__law_source.mono (by decide)) (C__law_pick.mono (by decide)) (C__law_stirred.mono (by decide)) (C__law_belt.mono (by decide)) (C__law_bags_right.mono (by decide)) (C__law_sure_right.mono (by decide)) cdv A outer s H E hr) u_law) fun ns o hl63 ho Kc hk => by unfold sp_law; exact ⟨ns, rfl, ho, hk⟩
end
end L83
open PySem PySem.W PyProof.Rows
set_option maxHeartbeats 0 in
theorem PySem.Challenge.cw_whoseitis_k83_bags_by_misreadings_holds : PySem.Challenge.rw_whoseitis_k83_bags_by_misreadings.Holds := by
  w_on; o_law; k_head; (case hw => w_witness2)
  k_fill
  refine Z.walk_tabs (l := PySem.Challenge.rw_whoseitis_k83_bags_by_misreadings) (n := 63) (k := 11) (xs := [("may_come" : Str), ("whose_bag" : Str), ("sure_gates" : Str)]) rfl rfl rfl ⟨rfl, by decide, by decide⟩ (by rfl) (fun w h Y => PySem.W.kIn_of Y) ?F
  case F =>
    intro w mg fa h Y KX G hmg
    refine' L83.all_mk KX G hmg ?d__law_source ?d__law_pick ?d__law_of ?d__law_stirred ?d__law_same ?d_lesser_told ?d_misreads_past ?d_misreads_to ?d_may_come ?d_whose_bag ?d_sure_gates ?d__law_belt ?d__law_misreads ?d__law_near ?d__law_sure ?d__law_bags_right ?d__law_sure_right ?d_law ?z_abs ?z_bool ?z_enumerate ?z_int ?z_isinstance ?z_len ?z_list ?z_min ?z_range ?z_str ?z_tuple
    (case d__law_source => (refine' Z.defAt ?a ?l ?c ?k; (case a => k_is); (case l => k_is); (case c => k_is); (case k => k_is)))
    (case d__law_pick => (refine' Z.defAt ?a ?l ?c ?k; (case a => k_is); (case l => k_is); (case c => k_is); (case k => k_is)))
    (case d__law_of => (refine' Z.defAt ?a ?l ?c ?k; (case a => k_is); (case l => k_is); (case c => k_is); (case k => k_is)))
    (case d__law_stirred => (refine' Z.defAt ?a ?l ?c ?k; (case a => k_is); (case l => k_is); (case c => k_is); (case k => k_is)))
    (case d__law_same => (refine' Z.defAt ?a ?l ?c ?k; (case a => k_is); (case l => k_is); (case c => k_is); (case k => k_is)))
    (case d_lesser_told => (refine' Z.defAt ?a ?l ?c ?k; (case a => k_is); (case l => k_is); (case c => k_is); (case k => k_is)))
    (case d_misreads_past => (refine' Z.defAt ?a ?l ?c ?k; (case a => k_is); (case l => k_is); (case c => k_is); (case k => k_is)))
    (case d_misreads_to => (refine' Z.defAt ?a ?l ?c ?k; (case a => k_is); (case l => k_is); (case c => k_is); (case k => k_is)))
    (case d_may_come => (refine' Z.defTab ?a ?l ?c ?k ?t ?tp ?n; (case a => k_is); (case l => k_is); (case c => k_is); (case k => k_is); (case t => k_is); (case tp => rfl); (case n => kernel_rfl)))
    (case d_whose_bag => (refine' Z.defTab ?a ?l ?c ?k ?t ?tp ?n; (case a => k_is); (case l => k_is); (case c => k_is); (case k => k_is); (case t => k_is); (case tp => rfl); (case n => kernel_rfl)))
    (case d_sure_gates => (refine' Z.defTab ?a ?l ?c ?k ?t ?tp ?n; (case a => k_is); (case l => k_is); (case c => k_is); (case k => k_is); (case t => k_is); (case tp => rfl); (case n => kernel_rfl)))
    (case d__law_belt => (refine' Z.defAt ?a ?l ?c ?k; (case a => k_is); (case l => k_is); (case c => k_is); (case k => k_is)))
    (case d__law_misreads => (refine' Z.defAt ?a ?l ?c ?k; (case a => k_is); (case l => k_is); (case c => k_is); (case k => k_is)))
    (case d__law_near => (refine' Z.defAt ?a ?l ?c ?k; (case a => k_is); (case l => k_is); (case c => k_is); (case k => k_is)))
    (case d__law_sure => (refine' Z.defAt ?a ?l ?c ?k; (case a => k_is); (case l => k_is); (case c => k_is); (case k => k_is)))
    (case d__law_bags_right => (refine' Z.defAt ?a ?l ?c ?k; (case a => k_is); (case l => k_is); (case c => k_is); (case k => k_is)))
    (case d__law_sure_right => (refine' Z.defAt ?a ?l ?c ?k; (case a => k_is); (case l => k_is); (case c => k_is); (case k => k_is)))
    (case d_law => (refine' Z.defAt ?a ?l ?c ?k; (case a => k_is); (case l => k_is); (case c => k_is); (case k => k_is)))
    (case z_abs => k_is)
    (case z_bool => k_is)
    (case z_enumerate => k_is)
    (case z_int => k_is)
    (case z_isinstance => k_is)
    (case z_len => k_is)
    (case z_list => k_is)
    (case z_min => k_is)
    (case z_range => k_is)
    (case z_str => k_is)
    (case z_tuple => k_is)

