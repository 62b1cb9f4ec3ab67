import PyProof.Rows.All
import PySem.Challenge.RW_whoseitis_k70_rewards_by_steps
import HandS.ForMost
import HandS.Wide
import HandS.TupAny
import HandS.TupMul
import HandS.Deep
import HandS.Flow
import HandS.Style
import HandS.Walk
import HandS.Zip
import HandS.IsInst
import HandS.More
import HandS.SortInts
import KE.GoesEnum
import KE.GoesMore
set_option Elab.async false
set_option linter.all false
set_option maxRecDepth 100000
set_option maxHeartbeats 2000000
/-! Z1: values by value, lists by reference into a store; the readings of the hand layer over them. -/
namespace Z
open PySem PySem.Spec PyProof.Rows L2

/-- a value: all but lists, dicts, objects by value -/
inductive W where
  | non | bl (b : Bool) | int (i : Int) | str (x : Str) | tup (xs : List W) | ref (n : Nat) | ty (n : String)
/-- what stands in the store -/
inductive O where
  | lst (xs : List W)
  | frz (xs : List W)
  | dic (kvs : List (Key × W))
abbrev Store := List O
abbrev Loc' := List (Option W)

/-- a tuple stands at a -/
def TupAt (K : PySem.W.Frag) (H : Hp) (a : Addr) (xs : List V) : Prop := H a = some (.tup xs) ∨
  ∃ (o : Obj) (its : Array Value) (n : Nat), K.lookup a = some o ∧ o.cls = .type "tuple" ∧ o.data = .seq its n ∧ its.size ≤ sizeLine ∧ Vals xs its.toList
/-- a list that nobody writes stands at a -/
def FrzAt (K : PySem.W.Frag) (H : Hp) (a : Addr) (xs : List V) : Prop := (∃ o, H a = some (.frz o (.lst xs))) ∨
  ∃ (o : Obj) (its : Array Value) (n : Nat), K.lookup a = some o ∧ o.cls = .type "list" ∧ o.dict = none ∧ o.data = .seq its n ∧ its.size ≤ sizeLine ∧ Vals xs its.toList
theorem TupAt.sq {K : PySem.W.Frag} {H : Hp} {a : Addr} {xs : List V} (h : TupAt K H a xs) : SqT K H a xs := h.elim (fun h => .inl (.inl h)) .inr
theorem FrzAt.sq {K : PySem.W.Frag} {H : Hp} {a : Addr} {xs : List V} (h : FrzAt K H a xs) : SqL K H a xs := h.elim (fun h => .inl (.inr h)) .inr

mutual
inductive Rep (K : PySem.W.Frag) (A : List Addr) (H : Hp) : W → V → Prop
  | non : Rep K A H .non .non
  | bl (b : Bool) : Rep K A H (.bl b) (.bl b)
  | int (i : Int) : Rep K A H (.int i) (.int i)
  | str (x : Str) : Rep K A H (.str x) (.str x)
  | ty (n : String) : Rep K A H (.ty n) (.ty n)
  | tup {a : Addr} {xs : List W} {vs : List V} : TupAt K H a vs → Reps K A H xs vs → Rep K A H (.tup xs) (.ref a)
  | ref {a : Addr} {n : Nat} : A[n]? = some a → Rep K A H (.ref n) (.ref a)
inductive Reps (K : PySem.W.Frag) (A : List Addr) (H : Hp) : List W → List V → Prop
  | nil : Reps K A H [] []
  | cons {x : W} {v : V} {xs : List W} {vs : List V} : Rep K A H x v → Reps K A H xs vs → Reps K A H (x :: xs) (v :: vs)
end

/-- tuples stay -/
def HExt (H H' : Hp) : Prop := ∀ a xs, H a = some (.tup xs) → H' a = some (.tup xs)
def AExt (A A' : List Addr) : Prop := ∀ (n : Nat) (a : Addr), A[n]? = some a → A'[n]? = some a
theorem HExt.refl (H : Hp) : HExt H H := fun _ _ h => h
theorem AExt.refl (A : List Addr) : AExt A A := fun _ _ h => h
theorem HExt.trans {H H1 H2 : Hp} (a : HExt H H1) (b : HExt H1 H2) : HExt H H2 := fun c o h => b c o (a c o h)
theorem AExt.trans {A A1 A2 : List Addr} (a : AExt A A1) (b : AExt A1 A2) : AExt A A2 := fun c o h => b c o (a c o h)
theorem AExt.snoc (A : List Addr) (p : Addr) : AExt A (A ++ [p]) := fun n a h => by
  obtain ⟨hl, _⟩ := List.getElem?_eq_some_iff.mp h
  rw [List.getElem?_append_left hl]; exact h
theorem HExt.new {H : Hp} {p : Addr} {o : HO} (h : H p = none) : HExt H (upd H p o) := fun a xs e => by rw [upd_ne (ne_of_none e h)]; exact e
theorem HExt.upd {H : Hp} {p : Addr} {o u : HO} (h : H p = some u) (n : ∀ xs, u ≠ .tup xs) : HExt H (upd H p o) := fun a xs e => by
  rw [upd_ne]; exact e
  rintro rfl; rw [h] at e; exact n xs (Option.some.inj e)

section
variable {K : PySem.W.Frag} {A A' : List Addr} {H H' : Hp}
theorem TupAt.mono {a : Addr} {xs : List V} (e : HExt H H') (h : TupAt K H a xs) : TupAt K H' a xs := h.elim (fun h => .inl (e _ _ h)) .inr
mutual
theorem Rep.mono (ea : AExt A A') (eh : HExt H H') : ∀ {w : W} {v : V}, Rep K A H w v → Rep K A' H' w v
  | _, _, .non => .non
  | _, _, .bl b => .bl b
  | _, _, .int i => .int i
  | _, _, .str x => .str x
  | _, _, .ty n => .ty n
  | _, _, .tup h r => .tup (h.mono eh) (Reps.mono ea eh r)
  | _, _, .ref h => .ref (ea _ _ h)
theorem Reps.mono (ea : AExt A A') (eh : HExt H H') : ∀ {ws : List W} {vs : List V}, Reps K A H ws vs → Reps K A' H' ws vs
  | _, _, .nil => .nil
  | _, _, .cons r t => .cons (Rep.mono ea eh r) (Reps.mono ea eh t)
end
theorem Reps.length : ∀ {ws : List W} {vs : List V}, Reps K A H ws vs → ws.length = vs.length
  | _, _, .nil => rfl
  | _, _, .cons _ t => by simp [Reps.length t]
theorem Reps.get : ∀ {ws : List W} {vs : List V} {i : Nat} {w : W}, Reps K A H ws vs → ws[i]? = some w → ∃ v, vs[i]? = some v ∧ Rep K A H w v
  | _, _, _, _, .nil, e => by simp at e
  | _, _, 0, _, .cons r _, e => by simp at e; subst e; exact ⟨_, rfl, r⟩
  | _, _, i + 1, x, .cons _ t, e => by
    obtain ⟨u, h1, h2⟩ := Reps.get (i := i) (w := x) t (by simpa using e)
    exact ⟨u, by simpa using h1, h2⟩
theorem Reps.get' : ∀ {ws : List W} {vs : List V} {i : Nat} {v : V}, Reps K A H ws vs → vs[i]? = some v → ∃ w, ws[i]? = some w ∧ Rep K A H w v
  | _, _, _, _, .nil, e => by simp at e
  | _, _, 0, _, .cons r _, e => by simp at e; subst e; exact ⟨_, rfl, r⟩
  | _, _, i + 1, x, .cons _ t, e => by
    obtain ⟨u, h1, h2⟩ := Reps.get' (i := i) (v := x) t (by simpa using e)
    exact ⟨u, by simpa using h1, h2⟩
theorem Reps.append : ∀ {xs ys : List W} {us ws : List V}, Reps K A H xs us → Reps K A H ys ws → Reps K A H (xs ++ ys) (us ++ ws)
  | _, _, _, _, .nil, s => s
  | _, _, _, _, .cons r t, s => .cons r (Reps.append t s)
theorem Reps.take : ∀ {xs : List W} {us : List V} (n : Nat), Reps K A H xs us → Reps K A H (xs.take n) (us.take n)
  | _, _, 0, _ => .nil
  | _, _, _ + 1, .nil => .nil
  | _, _, n + 1, .cons r t => .cons r (Reps.take n t)
theorem Reps.drop : ∀ {xs : List W} {us : List V} (n : Nat), Reps K A H xs us → Reps K A H (xs.drop n) (us.drop n)
  | _, _, 0, r => r
  | _, _, _ + 1, .nil => .nil
  | _, _, n + 1, .cons _ t => Reps.drop n t
theorem Reps.set {x : W} {u : V} (r : Rep K A H x u) : ∀ {xs : List W} {us : List V} (i : Nat), Reps K A H xs us → Reps K A H (xs.set i x) (us.set i u)
  | _, _, _, .nil => .nil
  | _, _, 0, .cons _ t => .cons r t
  | _, _, i + 1, .cons q t => .cons q (Reps.set r i t)
theorem Reps.eraseIdx : ∀ {xs : List W} {us : List V} (i : Nat), Reps K A H xs us → Reps K A H (xs.eraseIdx i) (us.eraseIdx i)
  | _, _, _, .nil => .nil
  | _, _, 0, .cons _ t => t
  | _, _, i + 1, .cons r t => .cons r (Reps.eraseIdx i t)
theorem Reps.insertIdx {x : W} {u : V} (r : Rep K A H x u) : ∀ {xs : List W} {us : List V} (i : Nat), Reps K A H xs us → Reps K A H (xs.insertIdx i x) (us.insertIdx i u)
  | _, _, 0, t => .cons r t
  | _, _, i + 1, .nil => by simpa using Reps.nil
  | _, _, i + 1, .cons q t => by simpa using Reps.cons q (Reps.insertIdx r i t)
theorem Reps.reverse : ∀ {xs : List W} {us : List V}, Reps K A H xs us → Reps K A H xs.reverse us.reverse
  | _, _, .nil => .nil
  | _, _, .cons r t => by simpa using Reps.append (Reps.reverse t) (.cons r .nil)
end

/-- what the store has at a place -/
def CellOk (K : PySem.W.Frag) (A : List Addr) (H : Hp) (a : Addr) : O → Prop
  | .lst xs => ∃ vs, H a = some (.lst vs) ∧ Reps K A H xs vs
  | .frz xs => ∃ vs, FrzAt K H a vs ∧ Reps K A H xs vs
  | .dic kvs => ∃ kws, H a = some (.dK kws) ∧ kvs.map (·.1) = kws.map (·.1) ∧ Reps K A H (kvs.map (·.2)) (kws.map (·.2))
/-- may be written -/
def O.mut : O → Bool
  | .frz _ => false
  | _ => true
def TabG (H : Hp) (P : Addr) : Prop := ∃ ps : Array Value, H P = some (.tbl ps) ∧ TriplesOk ps.toList
structure SOk (K : PySem.W.Frag) (TB : List Addr) (A : List Addr) (S : Store) (H : Hp) : Prop where
  len : A.length = S.length
  inj : ∀ (i j : Nat) (a : Addr) (o u : O), A[i]? = some a → A[j]? = some a → S[i]? = some o → S[j]? = some u → o.mut = true → u.mut = true → i = j
  cell : ∀ (n : Nat) (a : Addr) (o : O), A[n]? = some a → S[n]? = some o → CellOk K A H a o
  tab : ∀ P ∈ TB, TabG H P
def LOk (K : PySem.W.Frag) (A : List Addr) (H : Hp) (L : Loc') (σ : L2.St) : Prop :=
  L.length = σ.length ∧ ∀ (i : Nat) (w : W), L[i]? = some (some w) → ∃ v, σ[i]? = some (some v) ∧ Rep K A H w v

section
variable {K : PySem.W.Frag} {TB : List Addr} {A A' : List Addr} {S : Store} {H H' : Hp}
theorem LOk.mono {L : Loc'} {σ : L2.St} (ea : AExt A A') (eh : HExt H H') (h : LOk K A H L σ) : LOk K A' H' L σ :=
  ⟨h.1, fun i w e => let ⟨v, h1, h2⟩ := h.2 i w e; ⟨v, h1, h2.mono ea eh⟩⟩
theorem LOk.set {L : Loc'} {σ : L2.St} {w : W} {v : V} (h : LOk K A H L σ) (r : Rep K A H w v) (i : Nat) : LOk K A H (L.set i (some w)) (σ.set i (some v)) := by
  refine ⟨by simp [h.1], fun j x e => ?_⟩
  by_cases hj : i = j
  · subst hj
    by_cases hi : i < L.length
    · rw [List.getElem?_set_self hi] at e
      cases e
      exact ⟨v, List.getElem?_set_self (by rw [← h.1]; exact hi), r⟩
    · rw [List.getElem?_eq_none (by simpa using hi)] at e; cases e
  · rw [List.getElem?_set_ne hj] at e
    obtain ⟨v', h1, h2⟩ := h.2 j x e
    exact ⟨v', by rw [List.getElem?_set_ne hj]; exact h1, h2⟩
theorem SOk.addr (h : SOk K TB A S H) {n : Nat} {o : O} (e : S[n]? = some o) : ∃ a, A[n]? = some a := by
  obtain ⟨hl, _⟩ := List.getElem?_eq_some_iff.mp e
  exact ⟨_, List.getElem?_eq_getElem (by rw [h.len]; exact hl)⟩
theorem CellOk.mono {a : Addr} {o : O} (ea : AExt A A') (eh : HExt H H') (hl : o.mut = true → H' a = H a) (hz : ∀ z y, H a = some (.frz z y) → H' a = some (.frz z y)) (h : CellOk K A H a o) : CellOk K A' H' a o := by
  cases o with
  | lst xs => obtain ⟨vs, e, r⟩ := h; exact ⟨vs, (hl rfl).trans e, r.mono ea eh⟩
  | frz xs =>
    obtain ⟨vs, e, r⟩ := h
    refine ⟨vs, e.elim (fun ⟨o, e⟩ => .inl ⟨o, hz _ _ e⟩) .inr, r.mono ea eh⟩
  | dic kvs => obtain ⟨vs, e, k, r⟩ := h; exact ⟨vs, (hl rfl).trans e, k, r.mono ea eh⟩
theorem CellOk.trk {a : Addr} {o : O} (h : CellOk K A H a o) (m : o.mut = true) : ∃ u, H a = some u ∧ Mut (some u) ∧ (∀ xs, u ≠ .tup xs) ∧ (∀ ps, u ≠ .tbl ps) ∧ ∀ z y, u ≠ .frz z y := by
  cases o with
  | lst xs => obtain ⟨vs, e, r⟩ := h; exact ⟨_, e, trivial, (fun _ z => by cases z), (fun _ z => by cases z), (fun _ _ z => by cases z)⟩
  | frz xs => cases m
  | dic kvs => obtain ⟨vs, e, k, r⟩ := h; exact ⟨_, e, trivial, (fun _ z => by cases z), (fun _ z => by cases z), (fun _ _ z => by cases z)⟩
theorem CellOk.lst' {a : Addr} {xs : List W} {vs : List V} (h : H a = some (.lst vs)) (r : Reps K A H xs vs) : CellOk K A H a (.lst xs) := Exists.intro vs ⟨h, r⟩
theorem CellOk.dic' {a : Addr} {kvs : List (Key × W)} {kws : List (Key × V)} (h : H a = some (.dK kws)) (e : kvs.map (·.1) = kws.map (·.1)) (r : Reps K A H (kvs.map (·.2)) (kws.map (·.2))) : CellOk K A H a (.dic kvs) := Exists.intro kws ⟨h, e, r⟩
/-- a new object that is no cell of the store -/
theorem SOk.laid {p : Addr} {u : HO} (h : SOk K TB A S H) (hp : H p = none) : SOk K TB A S (upd H p u) := by
  refine ⟨h.len, h.inj, fun n a o h1 h2 => ?_, fun P hP => ?_⟩
  · refine (h.cell n a o h1 h2).mono (AExt.refl _) (HExt.new hp) (fun m => ?_) fun z y e => ?_
    · obtain ⟨u, e, _⟩ := (h.cell n a o h1 h2).trk m
      rw [upd_ne (ne_of_none e hp)]
    · rw [upd_ne (ne_of_none e hp)]; exact e
  · obtain ⟨ps, e, t⟩ := h.tab P hP
    exact ⟨ps, by rw [upd_ne (ne_of_none e hp)]; exact e, t⟩
/-- a new cell -/
theorem SOk.new {p : Addr} {u : HO} {o : O} (h : SOk K TB A S H) (hp : H p = none) (c : CellOk K (A ++ [p]) (upd H p u) p o) : SOk K TB (A ++ [p]) (S ++ [o]) (upd H p u) := by
  have old := h.laid (u := u) hp
  refine ⟨by simp [h.len], fun i j a o1 o2 h1 h2 h3 h4 m1 m2 => ?_, fun n a o' h1 h2 => ?_, old.tab⟩
  · have key : ∀ (i : Nat) (a : Addr) (o1 : O), (A ++ [p])[i]? = some a → (S ++ [o])[i]? = some o1 → o1.mut = true → (i < A.length ∧ a ≠ p ∧ A[i]? = some a ∧ S[i]? = some o1) ∨ (i = A.length ∧ a = p) := fun i a o1 h1 h3 m => by
      by_cases hi : i < A.length
      · rw [List.getElem?_append_left hi] at h1
        rw [List.getElem?_append_left (by rw [← h.len]; exact hi)] at h3
        obtain ⟨u, e, _⟩ := (h.cell i a o1 h1 h3).trk m
        exact .inl ⟨hi, ne_of_none e hp, h1, h3⟩
      · rw [List.getElem?_append_right (by omega)] at h1
        have : i - A.length = 0 := by
          cases hq : i - A.length with
          | zero => rfl
          | succ k => rw [hq] at h1; simp at h1
        rw [this] at h1
        exact .inr ⟨by omega, by simpa using h1.symm⟩
    rcases key i a o1 h1 h3 m1 with ⟨a1, b1, c1, d1⟩ | ⟨a1, b1⟩ <;> rcases key j a o2 h2 h4 m2 with ⟨a2, b2, c2, d2⟩ | ⟨a2, b2⟩
    · exact h.inj i j a o1 o2 c1 c2 d1 d2 m1 m2
    · exact absurd b2 b1
    · exact absurd b1 b2
    · omega
  · by_cases hn : n < A.length
    · rw [List.getElem?_append_left hn] at h1
      rw [List.getElem?_append_left (by rw [← h.len]; exact hn)] at h2
      exact (old.cell n a o' h1 h2).mono (AExt.snoc _ _) (HExt.refl _) (fun _ => rfl) fun _ _ e => e
    · rw [List.getElem?_append_right (by omega)] at h1
      rw [List.getElem?_append_right (by rw [← h.len]; omega)] at h2
      have e0 : n - A.length = 0 := by
        cases hq : n - A.length with
        | zero => rfl
        | succ k => rw [hq] at h1; simp at h1
      rw [e0] at h1
      rw [← h.len, e0] at h2
      have e1 : p = a := by simpa using h1
      have e2 : o = o' := by simpa using h2
      subst e1 e2
      exact c
/-- a cell is written -/
theorem SOk.write {n : Nat} {a : Addr} {o o' : O} {u : HO} (h : SOk K TB A S H) (ha : A[n]? = some a) (hs : S[n]? = some o) (m : o.mut = true) (m' : o'.mut = true) (c : HExt H (upd H a u) → CellOk K A (upd H a u) a o') : SOk K TB A (S.set n o') (upd H a u) ∧ HExt H (upd H a u) := by
  obtain ⟨v, e, mu, nt, nb, nf⟩ := (h.cell n a o ha hs).trk m
  have eh : HExt H (upd H a u) := HExt.upd e nt
  refine ⟨⟨by simp [h.len], fun i j b o1 o2 h1 h2 h3 h4 m1 m2 => ?_, fun i b o1 h1 h2 => ?_, fun P hP => ?_⟩, eh⟩
  · have key : ∀ (i : Nat) (o1 : O), (S.set n o')[i]? = some o1 → o1.mut = true → ∃ o2, S[i]? = some o2 ∧ o2.mut = true := fun i o1 h m1 => by
      by_cases hi : n = i
      · subst hi; exact ⟨o, hs, m⟩
      · rw [List.getElem?_set_ne hi] at h; exact ⟨o1, h, m1⟩
    obtain ⟨p1, q1, r1⟩ := key i o1 h3 m1
    obtain ⟨p2, q2, r2⟩ := key j o2 h4 m2
    exact h.inj i j b p1 p2 h1 h2 q1 q2 r1 r2
  · by_cases hi : n = i
    · subst hi
      rw [ha] at h1; cases h1
      rw [List.getElem?_set_self (List.getElem?_eq_some_iff.mp hs).1] at h2; cases h2
      exact c eh
    · rw [List.getElem?_set_ne hi] at h2
      refine (h.cell i b o1 h1 h2).mono (AExt.refl _) eh (fun m1 => ?_) fun z y e' => ?_
      · rw [upd_ne]
        rintro rfl
        exact hi (h.inj n i _ o o1 ha h1 hs h2 m m1)
      · rw [upd_ne]; exact e'
        rintro rfl
        rw [e] at e'; exact absurd (Option.some.inj e') (nf _ _)
  · obtain ⟨ps, e2, t⟩ := h.tab P hP
    refine ⟨ps, ?_, t⟩
    rw [upd_ne]; exact e2
    rintro rfl
    rw [e] at e2; exact absurd (Option.some.inj e2) (nb _)
end
end Z

set_option maxHeartbeats 2000000
/-! Z2: expressions. -/
namespace Z
open PySem PySem.Spec PyProof.Rows L2

abbrev WK := W → Store → Prop
abbrev ZE := Loc' → Store → WK → Prop
abbrev ZT := Loc' → Store → (Bool → Store → Prop) → Prop
abbrev ZA := Loc' → Store → (List W → Store → Prop) → Prop
/-- by values -/
abbrev Z1' := W → Store → WK → Prop
abbrev Z2' := W → W → Store → WK → Prop
abbrev ZC := List W → Store → WK → Prop
structure ZEnds where
  nx : Loc' → Store → Prop
  rt : WK
  bk : Loc' → Store → Prop := fun _ _ => False
  ct : Loc' → Store → Prop := fun _ _ => False
abbrev ZS := ZEnds → Loc' → Store → Prop

section
variable (K : PySem.W.Frag) (TB : List Addr)
def Aft (A : List Addr) (H : Hp) (Kc : WK) : VK := fun v H' => ∃ A' S' w, AExt A A' ∧ HExt H H' ∧ SOk K TB A' S' H' ∧ Rep K A' H' w v ∧ Kc w S'
def AftT (A : List Addr) (H : Hp) (Kc : Bool → Store → Prop) : Bool → Hp → Prop := fun b H' => ∃ A' S', AExt A A' ∧ HExt H H' ∧ SOk K TB A' S' H' ∧ Kc b S'
def AftA (A : List Addr) (H : Hp) (Kc : List W → Store → Prop) : List V → Hp → Prop := fun vs H' => ∃ A' S' ws, AExt A A' ∧ HExt H H' ∧ SOk K TB A' S' H' ∧ Reps K A' H' ws vs ∧ Kc ws S'
def AftS (A : List Addr) (H : Hp) (Kc : Loc' → Store → Prop) : L2.St → Hp → Prop := fun σ' H' => ∃ A' S' L', AExt A A' ∧ HExt H H' ∧ SOk K TB A' S' H' ∧ LOk K A' H' L' σ' ∧ Kc L' S'
def low (t : ZE) : TE := fun σ H Q => ∃ L S A Kc, SOk K TB A S H ∧ LOk K A H L σ ∧ t L S Kc ∧ ∀ v H', Aft K TB A H Kc v H' → Q v H'
def lowT (t : ZT) : TT := fun σ H Q => ∃ L S A Kc, SOk K TB A S H ∧ LOk K A H L σ ∧ t L S Kc ∧ ∀ v H', AftT K TB A H Kc v H' → Q v H'
def lowA (t : ZA) : TA := fun σ H Q => ∃ L S A Kc, SOk K TB A S H ∧ LOk K A H L σ ∧ t L S Kc ∧ ∀ v H', AftA K TB A H Kc v H' → Q v H'
def low1 (r : Z1') : V → Hp → VK → Prop := fun x H Q => ∃ A S wx Kc, SOk K TB A S H ∧ Rep K A H wx x ∧ r wx S Kc ∧ ∀ v H', Aft K TB A H Kc v H' → Q v H'
def low2 (r : Z2') : R2 := fun x y H Q => ∃ A S wx wy Kc, SOk K TB A S H ∧ Rep K A H wx x ∧ Rep K A H wy y ∧ r wx wy S Kc ∧ ∀ v H', Aft K TB A H Kc v H' → Q v H'
def lowC (r : ZC) : List V → Hp → VK → Prop := fun xs H Q => ∃ A S ws Kc, SOk K TB A S H ∧ Reps K A H ws xs ∧ r ws S Kc ∧ ∀ v H', Aft K TB A H Kc v H' → Q v H'
def lowS (t : ZS) : TS := fun D σ H => ∃ L S A ZD, SOk K TB A S H ∧ LOk K A H L σ ∧ t ZD L S ∧ (∀ σ' H', AftS K TB A H ZD.nx σ' H' → D.nx σ' H') ∧ (∀ v H', Aft K TB A H ZD.rt v H' → D.rt v H') ∧
  (∀ σ' H', AftS K TB A H ZD.bk σ' H' → D.bk σ' H') ∧ (∀ σ' H', AftS K TB A H ZD.ct σ' H' → D.ct σ' H')
end

structure ZPE (TB : List Addr) (X : Cx) (e : Expr) (t : ZE) : Prop where
  pe : PE X e (low X.K TB t)
structure ZPT (TB : List Addr) (X : Cx) (e : Expr) (t : ZT) : Prop where
  pt : PT X e (lowT X.K TB t)
structure ZPW (TB : List Addr) (X : Cx) (e : Expr) (t : ZT) : Prop where
  pw : PW X e (lowT X.K TB t)
structure ZPA (TB : List Addr) (X : Cx) (es : List Expr) (t : ZA) : Prop where
  pa : PA X es (lowA X.K TB t)
structure ZPS (TB : List Addr) (X : Cx) (st : Stmt) (t : ZS) : Prop where
  ps : PS X st (lowS X.K TB t)
structure ZPSs (TB : List Addr) (X : Cx) (st : List Stmt) (t : ZS) : Prop where
  ps : PSs X st (lowS X.K TB t)

section
variable {X : Cx} {e : Expr} {es : List Expr} {st : Stmt} {sts : List Stmt}
theorem _root_.L2.PE.conv {T T' : TE} (h : PE X e T) (c : ∀ σ H Q, T' σ H Q → T σ H Q) : PE X e T' := ⟨fun pins s σ H Q I q => h.run pins s σ H Q I (c σ H Q q)⟩
theorem _root_.L2.PT.conv {T T' : TT} (h : PT X e T) (c : ∀ σ H Q, T' σ H Q → T σ H Q) : PT X e T' := ⟨fun pins s σ H Q I q => h.run pins s σ H Q I (c σ H Q q)⟩
theorem _root_.L2.PW.conv {T T' : TT} (h : PW X e T) (c : ∀ σ H Q, T' σ H Q → T σ H Q) : PW X e T' := ⟨fun wh pins s σ H Q I q => h.run wh pins s σ H Q I (c σ H Q q)⟩
theorem _root_.L2.PA.conv {T T' : TA} (h : PA X es T) (c : ∀ σ H Q, T' σ H Q → T σ H Q) : PA X es T' := ⟨fun pos pins s σ H Q I q => h.run pos pins s σ H Q I (c σ H Q q)⟩
theorem _root_.L2.PS.conv {T T' : TS} (h : PS X st T) (c : ∀ D σ H, T' D σ H → T D σ H) : PS X st T' := ⟨fun pins s σ H D I q => h.run pins s σ H D I (c D σ H q)⟩
theorem _root_.L2.PSs.conv {T T' : TS} (h : PSs X sts T) (c : ∀ D σ H, T' D σ H → T D σ H) : PSs X sts T' := ⟨fun pins s σ H D I q => h.run pins s σ H D I (c D σ H q)⟩
end

section
variable {K : PySem.W.Frag} {TB : List Addr} {A A1 : List Addr} {H H1 : Hp}
/-- the end, a step on -/
theorem Aft.on {Kc : WK} {v : V} {H' : Hp} (ea : AExt A A1) (eh : HExt H H1) (h : Aft K TB A1 H1 Kc v H') : Aft K TB A H Kc v H' := by
  obtain ⟨A', S', w, a, b, c⟩ := h
  exact ⟨A', S', w, ea.trans a, eh.trans b, c⟩
theorem AftT.on {Kc : Bool → Store → Prop} {v : Bool} {H' : Hp} (ea : AExt A A1) (eh : HExt H H1) (h : AftT K TB A1 H1 Kc v H') : AftT K TB A H Kc v H' := by
  obtain ⟨A', S', a, b, c⟩ := h
  exact ⟨A', S', ea.trans a, eh.trans b, c⟩
theorem AftA.on {Kc : List W → Store → Prop} {v : List V} {H' : Hp} (ea : AExt A A1) (eh : HExt H H1) (h : AftA K TB A1 H1 Kc v H') : AftA K TB A H Kc v H' := by
  obtain ⟨A', S', w, a, b, c⟩ := h
  exact ⟨A', S', w, ea.trans a, eh.trans b, c⟩
theorem AftS.on {Kc : Loc' → Store → Prop} {v : L2.St} {H' : Hp} (ea : AExt A A1) (eh : HExt H H1) (h : AftS K TB A1 H1 Kc v H') : AftS K TB A H Kc v H' := by
  obtain ⟨A', S', w, a, b, c⟩ := h
  exact ⟨A', S', w, ea.trans a, eh.trans b, c⟩
theorem Aft.here {Kc : WK} {v : V} {w : W} {S : Store} (s : SOk K TB A S H) (r : Rep K A H w v) (k : Kc w S) : Aft K TB A H Kc v H := ⟨A, S, w, .refl _, .refl _, s, r, k⟩
/-- a new tuple -/
theorem Aft.tup {Kc : WK} {xs : List W} {vs : List V} {S : Store} {p : Addr} (s : SOk K TB A S H) (r : Reps K A H xs vs) (hp : H p = none) (k : Kc (.tup xs) S) : Aft K TB A H Kc (.ref p) (upd H p (.tup vs)) :=
  ⟨A, S, .tup xs, .refl _, .new hp, s.laid hp, .tup (.inl upd_same) (r.mono (.refl _) (.new hp)), k⟩
/-- a new list -/
theorem Aft.lst {Kc : WK} {xs : List W} {vs : List V} {S : Store} {p : Addr} (s : SOk K TB A S H) (r : Reps K A H xs vs) (hp : H p = none) (k : Kc (.ref S.length) (S ++ [.lst xs])) : Aft K TB A H Kc (.ref p) (upd H p (.lst vs)) := by
  have ea := AExt.snoc A p
  have eh : HExt H (upd H p (.lst vs)) := .new hp
  refine ⟨A ++ [p], S ++ [.lst xs], .ref S.length, ea, eh, s.new hp (.lst' upd_same (r.mono ea eh)), .ref ?_, k⟩
  rw [← s.len]; simp
/-- a list is read -/
theorem SOk.lst {S : Store} {n : Nat} {xs : List W} {a : Addr} (s : SOk K TB A S H) (ha : A[n]? = some a) (h : S[n]? = some (.lst xs)) : ∃ vs, H a = some (.lst vs) ∧ Reps K A H xs vs := s.cell n a _ ha h
/-- .. as a list that may be locked -/
def getL (S : Store) (n : Nat) : Option (List W) := match S[n]? with
  | some (.lst xs) => some xs
  | some (.frz xs) => some xs
  | _ => none
abbrev IsLst (S : Store) (n : Nat) (xs : List W) : Prop := getL S n = some xs
theorem isL {S : Store} {n : Nat} {xs : List W} : IsLst S n xs ↔ S[n]? = some (.lst xs) ∨ S[n]? = some (.frz xs) := by
  unfold IsLst getL
  cases h : S[n]? with
  | none => simp
  | some o => cases o <;> simp
theorem SOk.seq {S : Store} {n : Nat} {xs : List W} {a : Addr} (s : SOk K TB A S H) (ha : A[n]? = some a) (h : IsLst S n xs) : ∃ vs, SqL K H a vs ∧ Reps K A H xs vs := by
  rcases isL.mp h with h | h
  · obtain ⟨vs, e, r⟩ := s.cell n a _ ha h; exact ⟨vs, SqL.of e, r⟩
  · obtain ⟨vs, e, r⟩ := s.cell n a _ ha h; exact ⟨vs, e.sq, r⟩
/-- a list is written -/
theorem Aft.set {Kc : WK} {xs : List W} {ys : List W} {us : List V} {S : Store} {n : Nat} {a : Addr} {w : W} {v : V} (s : SOk K TB A S H) (ha : A[n]? = some a) (h : S[n]? = some (.lst xs)) (r : Reps K A H ys us) (rw' : Rep K A H w v)
    (k : Kc w (S.set n (.lst ys))) : Aft K TB A H Kc v (upd H a (.lst us)) := by
  obtain ⟨s', eh⟩ := s.write (o' := .lst ys) (u := .lst us) ha h rfl rfl fun eh => .lst' upd_same (r.mono (.refl _) eh)
  exact ⟨A, _, w, .refl _, eh, s', rw'.mono (.refl _) eh, k⟩
end

section
variable {X : Cx} {TB : List Addr} {a b c e : Expr} {es : List Expr} {ta tb tc te : ZE} {t u : ZT} {pos : Pos}
/-- a wall that no reckoning passes -/
structure Bx (p : Prop) : Prop where
  ok : p
/-- a branch -/
@[irreducible] def qIf (b : Bool) (A B : Prop) : Prop := Bx (if b = true then A else B)
theorem qIf_t {A B : Prop} : qIf true A B = A := by unfold qIf; exact propext ⟨fun h => by have := h.ok; rwa [if_pos rfl] at this, fun h => ⟨by rw [if_pos rfl]; exact h⟩⟩
theorem qIf_f {A B : Prop} : qIf false A B = B := by unfold qIf; exact propext ⟨fun h => by have := h.ok; rwa [if_neg Bool.false_ne_true] at this, fun h => ⟨by rw [if_neg Bool.false_ne_true]; exact h⟩⟩
/-- a local is written -/
@[irreducible] def qLet (i : Nat) (w : Option W) (L : Loc') (k : Loc' → Prop) : Prop := Bx (k (L.set i w))
theorem qLet_iff {i : Nat} {w : Option W} {L : Loc'} {k : Loc' → Prop} : qLet i w L k ↔ k (L.set i w) := by unfold qLet; exact ⟨fun h => h.ok, fun h => ⟨h⟩⟩
def onV (o : Option (Option W)) (P : W → Prop) : Prop := match o with
  | some (some w) => P w
  | _ => False
theorem onV_ex {o : Option (Option W)} {P : W → Prop} (h : onV o P) : ∃ w, o = some (some w) ∧ P w := by
  unfold onV at h
  split at h
  · exact ⟨_, rfl, h⟩
  · exact h.elim
def onBl (K : Bool → Prop) (w : W) : Prop := match w with
  | .bl b => K b
  | _ => False
theorem onBl_ex {K : Bool → Prop} {w : W} (h : onBl K w) : ∃ b, w = .bl b ∧ K b := by
  unfold onBl at h
  split at h
  · exact ⟨_, rfl, h⟩
  · exact h.elim
def onInt (K : Int → Prop) (w : W) : Prop := match w with
  | .int b => K b
  | _ => False
theorem onInt_ex {K : Int → Prop} {w : W} (h : onInt K w) : ∃ b, w = .int b ∧ K b := by
  unfold onInt at h
  split at h
  · exact ⟨_, rfl, h⟩
  · exact h.elim
def onTup (K : List W → Prop) (w : W) : Prop := match w with
  | .tup b => K b
  | _ => False
theorem onTup_ex {K : List W → Prop} {w : W} (h : onTup K w) : ∃ b, w = .tup b ∧ K b := by
  unfold onTup at h
  split at h
  · exact ⟨_, rfl, h⟩
  · exact h.elim
def onSome {α : Type} (o : Option α) (K : α → Prop) : Prop := match o with
  | some b => K b
  | none => False
theorem onSome_ex {α : Type} {o : Option α} {K : α → Prop} (h : onSome o K) : ∃ b, o = some b ∧ K b := by
  unfold onSome at h
  split at h
  · exact ⟨_, rfl, h⟩
  · exact h.elim
/-- the number of arguments -/
def qAr (m n : Nat) (P : Prop) : Prop := match decide (m = n) with
  | true => P
  | false => False
theorem qAr_ex {m n : Nat} {P : Prop} (h : qAr m n P) : m = n ∧ P := by
  unfold qAr at h
  split at h
  · rename_i e; exact ⟨of_decide_eq_true e, h⟩
  · exact h.elim
def zVar (i : Nat) : ZE := fun L S K => onV L[i]? fun w => K w S
def zC (w : W) : ZE := fun _ S K => K w S
theorem z_var (i : Nat) {x : Str} {pos : Pos} (hN : X.N[i]? = some x := by rfl) (hv : Vis X.env.scope x := by first | exact Or.inl rfl | exact Or.inr (Or.inl rfl) | exact Or.inr (Or.inr rfl)) (hd : (x == ("__debug__" : Str)) = false := by decide)
    (hcd : (x == ("__classdict__" : Str)) = false := by decide) : ZPE TB X (.Name x pos) (zVar i) :=
  ⟨(pe_var hN hv hd hcd).conv fun σ H Q ⟨L, S, A, Kc, s, l, h, hQ⟩ => let ⟨w, hw, k⟩ := onV_ex h; let ⟨v, h1, h2⟩ := l.2 i w hw; ⟨v, h1, hQ _ _ (.here s h2 k)⟩⟩
theorem z_int {i j pos} : ZPE TB X (.Constant (.int i) j pos) (zC (.int i)) := ⟨pe_int.conv fun σ H Q ⟨L, S, A, Kc, s, l, k, hQ⟩ => hQ _ _ (.here s (.int i) k)⟩
theorem z_bl {i j pos} : ZPE TB X (.Constant (.bool i) j pos) (zC (.bl i)) := ⟨pe_bl.conv fun σ H Q ⟨L, S, A, Kc, s, l, k, hQ⟩ => hQ _ _ (.here s (.bl i) k)⟩
theorem z_str {i j pos} : ZPE TB X (.Constant (.str i) j pos) (zC (.str i)) := ⟨pe_str.conv fun σ H Q ⟨L, S, A, Kc, s, l, k, hQ⟩ => hQ _ _ (.here s (.str i) k)⟩
theorem z_non {j pos} : ZPE TB X (.Constant .none j pos) (zC .non) := ⟨pe_non.conv fun σ H Q ⟨L, S, A, Kc, s, l, k, hQ⟩ => hQ _ _ (.here s .non k)⟩
/-- a built-in type's name as a value -/
theorem z_ty {x : Str} {n : String} {pos : Pos} (hg : Gl X x) (hm : X.mg x = none) (hv : bootBuiltins x = some (.type n)) (hn : x ≠ "__name__" := by decide) (hd : (x == ("__debug__" : Str)) = false := by decide) : ZPE TB X (.Name x pos) (zC (.ty n)) :=
  ⟨(pe_bltn (v := .ty n) hg hm hv rfl hn hd).conv fun σ H Q ⟨L, S, A, Kc, s, l, k, hQ⟩ => hQ _ _ (.here s (.ty n) k)⟩

/-- an operator of two values -/
structure ZO2 (TB : List Addr) (X : Cx) (f : Value → Value → Sem Value) (r : Z2') : Prop where
  ok : OpR X f (low2 X.K TB r)
structure ZO1 (TB : List Addr) (X : Cx) (f : Value → Sem Value) (r : Z1') : Prop where
  ok : UnR X f (low1 X.K TB r)
structure ZOC (TB : List Addr) (X : Cx) (f : Value) (r : ZC) : Prop where
  ok : CallR X f (lowC X.K TB r)
def zOp (r : Z2') (ta tb : ZE) : ZE := fun L S K => ta L S fun x S1 => tb L S1 fun y S2 => r x y S2 K
def zUn (r : Z1') (ta : ZE) : ZE := fun L S K => ta L S fun x S1 => r x S1 K
theorem low_op {K : PySem.W.Frag} {r : Z2'} {σ : L2.St} {H : Hp} {Q : VK} (h : low K TB (zOp r ta tb) σ H Q) : tOp (low2 K TB r) (low K TB ta) (low K TB tb) σ H Q := by
  obtain ⟨L, S, A, Kc, s, l, h, hQ⟩ := h
  refine ⟨L, S, A, _, s, l, h, fun v1 H1 ⟨A1, S1, w1, ea1, eh1, s1, r1, h1⟩ => ?_⟩
  refine ⟨L, S1, A1, _, s1, l.mono ea1 eh1, h1, fun v2 H2 ⟨A2, S2, w2, ea2, eh2, s2, r2, h2⟩ => ?_⟩
  exact ⟨A2, S2, w1, w2, Kc, s2, r1.mono ea2 eh2, r2, h2, fun v H' q => hQ v H' ((q.on ea2 eh2).on ea1 eh1)⟩
theorem z_op {op : Operator} {r : Z2'} (ho : ZO2 TB X (binaryOp op) r) (ha : ZPE TB X a ta) (hb : ZPE TB X b tb) : ZPE TB X (.BinOp a op b pos) (zOp r ta tb) :=
  ⟨(pe_op ho.ok ha.pe hb.pe).conv fun σ H Q h => low_op h⟩
theorem z_cmp {op : CmpOp} {r : Z2'} (ho : ZO2 TB X (compareOp op) r) (ha : ZPE TB X a ta) (hb : ZPE TB X b tb) (hm : behindInMarks op b = false) : ZPE TB X (.Compare a [op] [b] pos) (zOp r ta tb) :=
  ⟨(pe_cmpR ho.ok ha.pe hb.pe hm).conv fun σ H Q h => low_op h⟩
theorem z_ix {r : Z2'} (ho : IxR X (low2 X.K TB r)) (ha : ZPE TB X a ta) (hb : ZPE TB X b tb) (hs : PlainIx b) : ZPE TB X (.Subscript a b pos) (zOp r ta tb) :=
  ⟨(pe_ix ho ha.pe hb.pe hs).conv fun σ H Q h => low_op h⟩
theorem z_un {op : UnaryOp} {r : Z1'} (ho : ZO1 TB X (unaryOp op) r) (ha : ZPE TB X a ta) : ZPE TB X (.UnaryOp op a pos) (zUn r ta) :=
  ⟨(pe_un ho.ok ha.pe).conv fun σ H Q ⟨L, S, A, Kc, s, l, h, hQ⟩ => ⟨L, S, A, _, s, l, h, fun v1 H1 ⟨A1, S1, w1, ea1, eh1, s1, r1, h1⟩ => ⟨A1, S1, w1, Kc, s1, r1, h1, fun v H' q => hQ v H' (q.on ea1 eh1)⟩⟩⟩

/-! ### tests -/
/-- a test that is a value's truth -/
def W.truth (S : Store) : W → Option Bool
  | .non => some false
  | .bl b => some b
  | .int i => some (i != 0)
  | .str y => if y.length ≤ sizeLine then some ((y.length : Int) != 0) else none
  | .tup xs => some (!xs.isEmpty)
  | .ref n => match S[n]? with
    | some (.lst xs) => some (!xs.isEmpty)
    | some (.frz xs) => some (!xs.isEmpty)
    | some (.dic kvs) => some (!kvs.isEmpty)
    | none => none
  | .ty _ => none
theorem Reps.empty {K : PySem.W.Frag} {A : List Addr} {H : Hp} {ws : List W} {vs : List V} (h : Reps K A H ws vs) : ws.isEmpty = vs.isEmpty := by cases h <;> rfl
theorem tru_of {K : PySem.W.Frag} {A : List Addr} {S : Store} {H : Hp} {w : W} {v : V} {k : Bool} (s : SOk K TB A S H) (r : Rep K A H w v) (h : w.truth S = some k) : TruV K v H k := by
  cases r with
  | non => cases h; rfl
  | bl b => cases h; rfl
  | int i => cases h; rfl
  | str x =>
    by_cases hx : x.length ≤ sizeLine
    · simp only [W.truth, hx, if_true, Option.some.injEq] at h
      exact ⟨hx, h.symm⟩
    · simp [W.truth, hx] at h
  | ty n => cases h
  | tup h1 h2 =>
    cases h
    exact .inr (.inl ⟨_, h1.sq, by rw [h2.empty]⟩)
  | @ref a n h1 =>
    cases hc : S[n]? with
    | none => simp [W.truth, hc] at h
    | some o =>
      cases o with
      | lst xs =>
        simp only [W.truth, hc, Option.some.injEq] at h
        obtain ⟨vs, e, r⟩ := s.seq h1 (isL.mpr (.inl hc))
        exact .inl ⟨vs, e, by rw [← h, r.empty]⟩
      | frz xs =>
        simp only [W.truth, hc, Option.some.injEq] at h
        obtain ⟨vs, e, r⟩ := s.seq h1 (isL.mpr (.inr hc))
        exact .inl ⟨vs, e, by rw [← h, r.empty]⟩
      | dic kvs =>
        simp only [W.truth, hc, Option.some.injEq] at h
        obtain ⟨kws, e, r, _⟩ := s.cell n a _ h1 hc
        refine .inr (.inr ⟨kws, e, ?_⟩)
        have : kvs.isEmpty = kws.isEmpty := by cases kvs <;> cases kws <;> simp at r ⊢
        rw [← h, this]
def qTru (K : Bool → Store → Prop) : WK := fun x S1 => onSome (x.truth S1) fun k => K k S1
def zTru (ta : ZE) : ZT := fun L S K => ta L S (qTru K)
/-- an expression that gives a bool -/
def qTb (K : Bool → Store → Prop) : WK := fun x S1 => onBl (fun k => K k S1) x
def zTb (ta : ZE) : ZT := fun L S K => ta L S (qTb K)
theorem z_truth (ha : ZPE TB X a ta) (he : ∀ whole, isTrue a X.env whole = (do let v ← whole; standAt a.pos; holding [v] (truthy v)) := by intro _; rfl) : ZPT TB X a (zTru ta) :=
  ⟨(pt_truth ha.pe he).conv fun σ H Q ⟨L, S, A, Kc, s, l, h, hQ⟩ => ⟨L, S, A, _, s, l, h, fun v1 H1 ⟨A1, S1, w1, ea1, eh1, s1, r1, h0⟩ => let ⟨k, h1, h2⟩ := onSome_ex h0; ⟨k, tru_of s1 r1 h1, hQ _ _ ⟨A1, S1, ea1, eh1, s1, h2⟩⟩⟩⟩
theorem z_tcmp {op : CmpOp} {r : Z2'} (ho : ZO2 TB X (compareOp op) r) (ha : ZPE TB X a ta) (hb : ZPE TB X b tb) (hm : behindInMarks op b = false) : ZPT TB X (.Compare a [op] [b] pos) (zTb (zOp r ta tb)) :=
  ⟨(pt_cmpR ho.ok ha.pe hb.pe hm).conv fun σ H Q ⟨L, S, A, Kc, s, l, h, hQ⟩ => low_op ⟨L, S, A, _, s, l, h, fun v1 H1 ⟨A1, S1, w1, ea1, eh1, s1, r1, h0⟩ => by
    obtain ⟨k, h1, h2⟩ := onBl_ex h0
    subst h1
    cases r1
    exact ⟨k, rfl, hQ _ _ ⟨A1, S1, ea1, eh1, s1, h2⟩⟩⟩⟩
def zChain (r r' : Z2') (ta tb tc : ZE) : ZE := fun L S K => ta L S fun x S1 => tb L S1 fun y S2 => r x y S2 fun z S3 => onBl (fun k => qIf k (tc L S3 fun c S4 => r' y c S4 K) (K (.bl false) S3)) z
end
end Z

set_option maxHeartbeats 2000000
/-! Z3: operators by values. -/
namespace Z
open PySem PySem.Spec PyProof.Rows L2

section
variable {X : Cx} {TB : List Addr}

/-! ### + - * // % and bits -/
@[irreducible] def qCat (n m : Nat) (S : Store) (K : WK) : Prop := Bx (∃ xs ys, S[n]? = some (.lst xs) ∧ S[m]? = some (.lst ys) ∧ xs.length + ys.length ≤ sizeLine ∧ K (.ref S.length) (S ++ [.lst (xs ++ ys)]))
def qAdd : Z2' := fun x y S K => match x, y with
  | .int i, .int j => K (.int (i + j)) S
  | .int i, .bl b => K (.int (i + if b then 1 else 0)) S
  | .str a, .str b => a.length + b.length ≤ sizeLine ∧ K (.str (a ++ b)) S
  | .tup a, .tup b => a.length + b.length ≤ sizeLine ∧ K (.tup (a ++ b)) S
  | .ref n, .ref m => qCat n m S K
  | _, _ => False
theorem Reps.nil_iff {K : PySem.W.Frag} {A : List Addr} {H : Hp} {ws : List W} {vs : List V} (h : Reps K A H ws vs) : vs = [] ↔ ws = [] := by cases h <;> simp
theorem zo_add : ZO2 TB X (binaryOp .Add) qAdd := by
  refine ⟨fun pins s σ H x y v u Q I rx ry h => ?_⟩
  obtain ⟨A, S, wx, wy, Kc, sk, r1, r2, h, hQ⟩ := h
  cases r1 with
  | int i =>
    cases r2 with
    | int j => exact op_add pins s σ H _ _ v u Q I rx ry ⟨i, j, rfl, rfl, hQ _ _ (.here sk (.int _) h)⟩
    | bl b => exact op_add_ib pins s σ H _ _ v u Q I rx ry ⟨i, b, rfl, rfl, hQ _ _ (by
        have e : b2i b = (if b then 1 else 0 : Int) := by cases b <;> rfl
        rw [e]; exact .here sk (.int _) h)⟩
    | _ => exact h.elim
  | str a =>
    cases r2 with
    | str b => exact op_add_str pins s σ H _ _ v u Q I rx ry ⟨a, b, rfl, rfl, h.1, hQ _ _ (.here sk (.str _) h.2)⟩
    | _ => exact h.elim
  | tup h1 q1 =>
    cases r2 with
    | tup h2 q2 =>
      refine op_catA pins s σ H _ _ v u Q I rx ry ⟨_, _, _, _, rfl, rfl, h1.sq, h2.sq, by rw [← q1.length, ← q2.length]; exact h.1, fun e => hQ _ _ ?_, fun _ e => hQ _ _ ?_, fun _ _ p hp => hQ _ _ ?_⟩
      · have := q1.nil_iff.mp e
        subst this
        exact .here sk (.tup h2 q2) h.2
      · have := q2.nil_iff.mp e
        subst this
        have h' := h.2
        rw [List.append_nil] at h'
        exact .here sk (.tup h1 q1) h'
      · exact .tup sk (q1.append q2) hp h.2
    | _ => exact h.elim
  | @ref a n h1 =>
    cases r2 with
    | @ref b m h2 =>
      have h9 : qCat n m S Kc := h
      unfold qCat at h9
      replace h9 := h9.ok
      obtain ⟨xs, ys, e1, e2, hz, k⟩ := h9
      obtain ⟨vs, f1, q1⟩ := sk.lst h1 e1
      obtain ⟨us, f2, q2⟩ := sk.lst h2 e2
      exact op_cat pins s σ H _ _ v u Q I rx ry ⟨_, _, _, _, rfl, rfl, f1, f2, by rw [← q1.length, ← q2.length]; exact hz, fun p hp => hQ _ _ (.lst sk (q1.append q2) hp k)⟩
    | _ => exact h.elim
  | _ => exact h.elim
def qSub : Z2' := fun x y S K => match x, y with
  | .int i, .int j => K (.int (i - j)) S
  | _, _ => False
theorem zo_sub : ZO2 TB X (binaryOp .Sub) qSub := by
  refine ⟨fun pins s σ H x y v u Q I rx ry h => ?_⟩
  obtain ⟨A, S, wx, wy, Kc, sk, r1, r2, h, hQ⟩ := h
  cases r1 with
  | int i =>
    cases r2 with
    | int j => exact op_sub pins s σ H _ _ v u Q I rx ry ⟨i, j, rfl, rfl, hQ _ _ (.here sk (.int _) h)⟩
    | _ => exact h.elim
  | _ => exact h.elim
/-- when a product is told: one side below 2^64, or both below a million bits -/
def MulOk (i j : Int) : Prop := (-(2 ^ 64) < i ∧ i < 2 ^ 64) ∨ (-(2 ^ 64) < j ∧ j < 2 ^ 64) ∨ i.natAbs.log2 + j.natAbs.log2 < 1000000
theorem op_mulA : OpR X (binaryOp .Mult) (rI MulOk fun i j => .int (i * j)) := by
  intro pins s σ H x y v u Q I rx ry h
  obtain ⟨i, j, e1, e2, hc, q⟩ := h
  rcases hc with hc | hc | hc
  · exact op_mul pins s σ H x y v u Q I rx ry ⟨i, j, e1, e2, .inl hc, q⟩
  · exact op_mul pins s σ H x y v u Q I rx ry ⟨i, j, e1, e2, .inr hc, q⟩
  · exact op_mulW pins s σ H x y v u Q I rx ry ⟨i, j, e1, e2, hc, q⟩
/-- xs k times -/
def times {α : Type} (xs : List α) (k : Int) : List α := (List.replicate k.toNat xs).flatten
def qMul : Z2' := fun x y S K => match x, y with
  | .int i, .int j => MulOk i j ∧ K (.int (i * j)) S
  | .tup xs, .int k => 2 ≤ k ∧ k ≤ 1000 ∧ xs.length ≤ 1000 ∧ xs ≠ [] ∧ K (.tup (times xs k)) S
  | .ref n, .int k => ∃ xs, S[n]? = some (.lst xs) ∧ -(2 ^ 63) ≤ k ∧ k < 2 ^ 63 ∧ xs.length * k.toNat ≤ sizeLine ∧ K (.ref S.length) (S ++ [.lst (times xs k)])
  | _, _ => False
theorem Reps.rep {K : PySem.W.Frag} {A : List Addr} {H : Hp} {ws : List W} {vs : List V} (h : Reps K A H ws vs) : ∀ k : Nat, Reps K A H (List.replicate k ws).flatten (List.replicate k vs).flatten
  | 0 => .nil
  | k + 1 => by
    rw [List.replicate_succ, List.replicate_succ, List.flatten_cons, List.flatten_cons]
    exact h.append (Reps.rep h k)
theorem zo_mul : ZO2 TB X (binaryOp .Mult) qMul := by
  refine ⟨fun pins s σ H x y v u Q I rx ry h => ?_⟩
  obtain ⟨A, S, wx, wy, Kc, sk, r1, r2, h, hQ⟩ := h
  cases r1 with
  | int i =>
    cases r2 with
    | int j => exact op_mulA pins s σ H _ _ v u Q I rx ry ⟨i, j, rfl, rfl, h.1, hQ _ _ (.here sk (.int _) h.2)⟩
    | _ => exact h.elim
  | tup h1 q1 =>
    cases r2 with
    | int k =>
      obtain ⟨a1, a2, a3, a4, a5⟩ := h
      exact op_repT pins s σ H _ _ v u Q I rx ry ⟨_, k, _, rfl, rfl, h1.sq, fun e => a4 (q1.nil_iff.mp e), a1, a2, by rw [← q1.length]; exact a3, fun p hp => hQ _ _ (.tup sk (q1.rep _) hp a5)⟩
    | _ => exact h.elim
  | @ref a n h1 =>
    cases r2 with
    | int k =>
      obtain ⟨xs, e1, a1, a2, a3, a5⟩ := h
      obtain ⟨vs, f1, q1⟩ := sk.lst h1 e1
      exact op_rep pins s σ H _ _ v u Q I rx ry ⟨_, k, _, rfl, rfl, f1, a1, a2, by rw [← q1.length]; exact a3, fun p hp => hQ _ _ (.lst sk (q1.rep _) hp a5)⟩
    | _ => exact h.elim
  | _ => exact h.elim
/-- a divisor that is told -/
def DivOk (_ j : Int) : Prop := 0 < j ∧ j.natAbs.log2 < 9000
def qDiv : Z2' := fun x y S K => match x, y with
  | .int i, .int j => DivOk i j ∧ K (.int (i / j)) S
  | _, _ => False
theorem zo_div : ZO2 TB X (binaryOp .FloorDiv) qDiv := by
  refine ⟨fun pins s σ H x y v u Q I rx ry h => ?_⟩
  obtain ⟨A, S, wx, wy, Kc, sk, r1, r2, h, hQ⟩ := h
  cases r1 with
  | int i =>
    cases r2 with
    | int j => exact op_fdivW pins s σ H _ _ v u Q I rx ry ⟨i, j, rfl, rfl, h.1, hQ _ _ (.here sk (.int _) h.2)⟩
    | _ => exact h.elim
  | _ => exact h.elim
def qMod : Z2' := fun x y S K => match x, y with
  | .int i, .int j => 0 < j ∧ K (.int (i % j)) S
  | _, _ => False
theorem zo_mod : ZO2 TB X (binaryOp .Mod) qMod := by
  refine ⟨fun pins s σ H x y v u Q I rx ry h => ?_⟩
  obtain ⟨A, S, wx, wy, Kc, sk, r1, r2, h, hQ⟩ := h
  cases r1 with
  | int i =>
    cases r2 with
    | int j => exact op_mod pins s σ H _ _ v u Q I rx ry ⟨i, j, rfl, rfl, h.1, hQ _ _ (.here sk (.int _) h.2)⟩
    | _ => exact h.elim
  | _ => exact h.elim
def PowOk (i j : Int) : Prop := 0 ≤ j ∧ j ≤ 1000000 ∧ i.natAbs < 2 ^ 64
def qIC (C : Int → Int → Prop) (g : Int → Int → Int) : Z2' := fun x y S K => match x, y with
  | .int i, .int j => C i j ∧ K (.int (g i j)) S
  | _, _ => False
theorem zo_ic {f : Value → Value → Sem Value} {C : Int → Int → Prop} {g : Int → Int → Int} (h0 : OpR X f (rI C fun i j => .int (g i j))) : ZO2 TB X f (qIC C g) := by
  refine ⟨fun pins s σ H x y v u Q I rx ry h => ?_⟩
  obtain ⟨A, S, wx, wy, Kc, sk, r1, r2, h, hQ⟩ := h
  cases r1 with
  | int i =>
    cases r2 with
    | int j => exact h0 pins s σ H _ _ v u Q I rx ry ⟨i, j, rfl, rfl, h.1, hQ _ _ (.here sk (.int _) h.2)⟩
    | _ => exact h.elim
  | _ => exact h.elim
def qI0' (g : Int → Int → Int) : Z2' := fun x y S K => match x, y with
  | .int i, .int j => K (.int (g i j)) S
  | _, _ => False
theorem zo_i0 {f : Value → Value → Sem Value} {g : Int → Int → Int} (h0 : OpR X f (rI0 fun i j => .int (g i j))) : ZO2 TB X f (qI0' g) := by
  refine ⟨fun pins s σ H x y v u Q I rx ry h => ?_⟩
  obtain ⟨A, S, wx, wy, Kc, sk, r1, r2, h, hQ⟩ := h
  cases r1 with
  | int i =>
    cases r2 with
    | int j => exact h0 pins s σ H _ _ v u Q I rx ry ⟨i, j, rfl, rfl, hQ _ _ (.here sk (.int _) h)⟩
    | _ => exact h.elim
  | _ => exact h.elim
def qPow : Z2' := qIC PowOk fun i j => i ^ j.toNat
theorem zo_pow : ZO2 TB X (binaryOp .Pow) qPow := zo_ic op_pow
def qShl : Z2' := qIC PowOk fun i j => i * 2 ^ j.toNat
theorem zo_shl : ZO2 TB X (binaryOp .LShift) qShl := zo_ic op_shl
def qShr : Z2' := qIC (fun _ j => 0 ≤ j) fun i j => i / 2 ^ j.toNat
theorem zo_shr : ZO2 TB X (binaryOp .RShift) qShr := zo_ic op_shr
def qAnd : Z2' := qI0' Builtin.bitAnd
theorem zo_and : ZO2 TB X (binaryOp .BitAnd) qAnd := zo_i0 op_and
def qOr : Z2' := qI0' Builtin.bitOr
theorem zo_or : ZO2 TB X (binaryOp .BitOr) qOr := zo_i0 op_or
def qXor : Z2' := qI0' Builtin.bitXor
theorem zo_xor : ZO2 TB X (binaryOp .BitXor) qXor := zo_i0 op_xor
def qNeg : Z1' := fun x S K => match x with
  | .int i => K (.int (-i)) S
  | _ => False
theorem zo_neg : ZO1 TB X (unaryOp .USub) qNeg := by
  refine ⟨fun pins s σ H x v Q I rx h => ?_⟩
  obtain ⟨A, S, wx, Kc, sk, r1, h, hQ⟩ := h
  cases r1 with
  | int i => exact un_neg pins s σ H _ v Q I rx ⟨i, rfl, hQ _ _ (.here sk (.int _) h)⟩
  | _ => exact h.elim

/-! ### comparisons -/
def qIB (g : Int → Int → Bool) (t : List W → List W → Bool → Prop) (st : Str → Str → Bool) : Z2' := fun x y S K => match x, y with
  | .int i, .int j => K (.bl (g i j)) S
  | .str a, .str b => K (.bl (st a b)) S
  | .tup a, .tup b => ∃ k, t a b k ∧ K (.bl k) S
  | _, _ => False
/-- < of tuples of ints -/
def LexLt (a b : List W) (k : Bool) : Prop := ∃ ns ms, a = ns.map W.int ∧ b = ms.map W.int ∧ k = HT.lexLt ns ms
theorem Reps.ints {K : PySem.W.Frag} {A : List Addr} {H : Hp} : ∀ {ns : List Int} {vs : List V}, Reps K A H (ns.map W.int) vs → vs = ns.map V.int
  | [], _, .nil => rfl
  | n :: ns, _, .cons (.int _) t => by rw [List.map_cons, Reps.ints t]
def NoTup : List W → List W → Bool → Prop := fun _ _ _ => False
def qLt : Z2' := qIB (fun i j => decide (i < j)) LexLt fun a b => decide (a.cps.toList < b.cps.toList)
theorem zo_lt (hu : X.A.units < cLine) : ZO2 TB X (compareOp .Lt) qLt := by
  refine ⟨fun pins s σ H x y v u Q I rx ry h => ?_⟩
  obtain ⟨A, S, wx, wy, Kc, sk, r1, r2, h, hQ⟩ := h
  cases r1 with
  | int i =>
    cases r2 with
    | int j => exact op_lt pins s σ H _ _ v u Q I rx ry ⟨i, j, rfl, rfl, hQ _ _ (.here sk (.bl _) h)⟩
    | _ => exact h.elim
  | str i =>
    cases r2 with
    | str j => exact op_lt_str pins s σ H _ _ v u Q I rx ry ⟨i, j, rfl, rfl, hQ _ _ (.here sk (.bl _) h)⟩
    | _ => exact h.elim
  | tup h1 q1 =>
    cases r2 with
    | tup h2 q2 =>
      obtain ⟨k, ⟨ns, ms, rfl, rfl, rfl⟩, h⟩ := h
      have e1 := q1.ints
      have e2 := q2.ints
      subst e1 e2
      exact op_ltT hu pins s σ H _ _ v u Q I rx ry ⟨_, _, ns, ms, rfl, rfl, h1.sq, h2.sq, hQ _ _ (.here sk (.bl _) h)⟩
    | _ => exact h.elim
  | _ => exact h.elim
def qLe : Z2' := qIB (fun i j => decide (i ≤ j)) NoTup fun a b => decide (a.cps.toList ≤ b.cps.toList)
def qGt : Z2' := fun x y S K => match x, y with
  | .int i, .int j => K (.bl (decide (j < i))) S
  | _, _ => False
def qGe : Z2' := fun x y S K => match x, y with
  | .int i, .int j => K (.bl (decide (j ≤ i))) S
  | _, _ => False
def qLeI : Z2' := fun x y S K => match x, y with
  | .int i, .int j => K (.bl (decide (i ≤ j))) S
  | _, _ => False
theorem zo_le : ZO2 TB X (compareOp .LtE) qLeI := by
  refine ⟨fun pins s σ H x y v u Q I rx ry h => ?_⟩
  obtain ⟨A, S, wx, wy, Kc, sk, r1, r2, h, hQ⟩ := h
  cases r1 with
  | int i =>
    cases r2 with
    | int j => exact op_le pins s σ H _ _ v u Q I rx ry ⟨i, j, rfl, rfl, hQ _ _ (.here sk (.bl _) h)⟩
    | _ => exact h.elim
  | _ => exact h.elim
theorem zo_gt : ZO2 TB X (compareOp .Gt) qGt := by
  refine ⟨fun pins s σ H x y v u Q I rx ry h => ?_⟩
  obtain ⟨A, S, wx, wy, Kc, sk, r1, r2, h, hQ⟩ := h
  cases r1 with
  | int i =>
    cases r2 with
    | int j => exact op_gt pins s σ H _ _ v u Q I rx ry ⟨i, j, rfl, rfl, hQ _ _ (.here sk (.bl _) h)⟩
    | _ => exact h.elim
  | _ => exact h.elim
theorem zo_ge : ZO2 TB X (compareOp .GtE) qGe := by
  refine ⟨fun pins s σ H x y v u Q I rx ry h => ?_⟩
  obtain ⟨A, S, wx, wy, Kc, sk, r1, r2, h, hQ⟩ := h
  cases r1 with
  | int i =>
    cases r2 with
    | int j => exact op_ge pins s σ H _ _ v u Q I rx ry ⟨i, j, rfl, rfl, hQ _ _ (.here sk (.bl _) h)⟩
    | _ => exact h.elim
  | _ => exact h.elim

end
end Z

set_option maxHeartbeats 2000000
/-! Z4: equality and membership of data, subscripts, slices, displays, and / or / not, built-in calls, methods. -/
namespace Z
open PySem PySem.Spec PyProof.Rows L2

mutual
/-- a value as data, the store's lists within -/
inductive DataOf (S : Store) : W → PyData → Prop
  | non : DataOf S .non .none
  | bl (b : Bool) : DataOf S (.bl b) (.bool b)
  | int (i : Int) : DataOf S (.int i) (.int i)
  | str (x : Str) : DataOf S (.str x) (.str x)
  | tup {xs : List W} {ds : List PyData} : DataAll S xs ds → DataOf S (.tup xs) (.tuple ds)
  | ref {n : Nat} {xs : List W} {ds : List PyData} : IsLst S n xs → DataAll S xs ds → DataOf S (.ref n) (.list ds)
inductive DataAll (S : Store) : List W → List PyData → Prop
  | nil : DataAll S [] []
  | cons {x : W} {xs : List W} {d : PyData} {ds : List PyData} : DataOf S x d → DataAll S xs ds → DataAll S (x :: xs) (d :: ds)
end
section
variable {K : PySem.W.Frag} {TB A : List Addr} {S : Store} {H : Hp}
mutual
theorem DataOf.dp (s : SOk K TB A S H) : ∀ {w : W} {d : PyData} {v : V}, DataOf S w d → Rep K A H w v → Dp K H v d
  | _, _, _, .non, .non => .non
  | _, _, _, .bl b, .bl _ => .bl b
  | _, _, _, .int b, .int _ => .int b
  | _, _, _, .str b, .str _ => .str b
  | _, _, _, .tup h, .tup t r => .tup t.sq (DataAll.dp s h r)
  | _, _, _, .ref e h, .ref t => let ⟨_, q, r⟩ := s.seq t e; .lst q (DataAll.dp s h r)
theorem DataAll.dp (s : SOk K TB A S H) : ∀ {ws : List W} {ds : List PyData} {vs : List V}, DataAll S ws ds → Reps K A H ws vs → DpAll K H vs ds
  | _, _, _, .nil, .nil => .nil
  | _, _, _, .cons h t, .cons r q => .cons (DataOf.dp s h r) (DataAll.dp s t q)
end
mutual
theorem DataOf.fn : ∀ {w : W} {d e : PyData}, DataOf S w d → DataOf S w e → d = e
  | _, _, _, .non, .non => rfl
  | _, _, _, .bl b, .bl _ => rfl
  | _, _, _, .int b, .int _ => rfl
  | _, _, _, .str b, .str _ => rfl
  | _, _, _, .tup h, .tup r => by rw [DataAll.fn h r]
  | _, _, _, .ref e h, .ref e' h' => by
    have q := e.symm.trans e'
    cases q
    rw [DataAll.fn h h']
theorem DataAll.fn : ∀ {ws : List W} {ds es : List PyData}, DataAll S ws ds → DataAll S ws es → ds = es
  | _, _, _, .nil, .nil => rfl
  | _, _, _, .cons h t, .cons r q => by rw [DataOf.fn h r, DataAll.fn t q]
end
end

section
variable {X : Cx} {TB : List Addr} {a b c e : Expr} {es : List Expr} {ta tb tc te : ZE} {t u : ZT} {pos : Pos}
@[irreducible] def qEq (neg : Bool) : Z2' := fun x y S K => Bx (∃ d e, DataOf S x d ∧ DataOf S y e ∧ SeqAt.shaped d = true ∧ SeqAt.shaped e = true ∧ K (.bl (neg ^^ PyData.eqv d e)) S)
theorem zo_eq (hu : X.A.units + 64 < cLine) : ZO2 TB X (compareOp .Eq) (qEq false) := by
  refine ⟨fun pins s σ H x y v u Q I rx ry h => ?_⟩
  obtain ⟨A, S, wx, wy, Kc, sk, r1, r2, h, hQ⟩ := h
  unfold qEq at h
  replace h := h.ok
  obtain ⟨d, e, h1, h2, s1, s2, h⟩ := h
  rw [Bool.false_xor] at h
  exact op_eqD hu pins s σ H _ _ v u Q I rx ry ⟨d, e, h1.dp sk r1, h2.dp sk r2, s1, s2, hQ _ _ (.here sk (.bl _) h)⟩
theorem zo_ne (hu : X.A.units + 64 < cLine) : ZO2 TB X (compareOp .NotEq) (qEq true) := by
  refine ⟨fun pins s σ H x y v u Q I rx ry h => ?_⟩
  obtain ⟨A, S, wx, wy, Kc, sk, r1, r2, h, hQ⟩ := h
  unfold qEq at h
  replace h := h.ok
  obtain ⟨d, e, h1, h2, s1, s2, h⟩ := h
  rw [Bool.true_xor] at h
  exact op_neD hu pins s σ H _ _ v u Q I rx ry ⟨d, e, h1.dp sk r1, h2.dp sk r2, s1, s2, hQ _ _ (.here sk (.bl _) h)⟩
/-- x in y: y a list or a tuple, a text -/
@[irreducible] def qIn (neg : Bool) : Z2' := fun x y S K => Bx ((∃ d ds, DataOf S x d ∧ (DataOf S y (.list ds) ∨ DataOf S y (.tuple ds)) ∧ SeqAt.shaped d = true ∧ SeqAt.shaped (.list ds) = true ∧ K (.bl (neg ^^ ds.any fun z => PyData.eqv z d)) S) ∨
  ∃ i j, x = .str i ∧ y = .str j ∧ K (.bl (neg ^^ !(Builtin.Str.occurrences j i 0 j.length 1).isEmpty)) S)
theorem shaped_list_tuple {ds : List PyData} (h : SeqAt.shaped (.list ds) = true) : PyData.canLayAll0 ds = true := SeqAt.canLay_of_shaped h
theorem zo_in (hu : X.A.units + 65 < cLine) : ZO2 TB X (compareOp .In) (qIn false) := by
  refine ⟨fun pins s σ H x y v u Q I rx ry h => ?_⟩
  obtain ⟨A, S, wx, wy, Kc, sk, r1, r2, h, hQ⟩ := h
  unfold qIn at h
  replace h := h.ok
  rcases h with ⟨d, ds, h1, h2 | h2, s1, s2, h⟩ | ⟨i, j, rfl, rfl, h⟩
  · rw [Bool.false_xor] at h
    exact op_inD hu pins s σ H _ _ v u Q I rx ry ⟨d, ds, h1.dp sk r1, h2.dp sk r2, s1, s2, hQ _ _ (.here sk (.bl _) h)⟩
  · rw [Bool.false_xor] at h
    obtain ⟨as, q1⟩ := Dp.reads I d x v (h1.dp sk r1) rx
    obtain ⟨bs, q2⟩ := Dp.reads I (.tuple ds) y u (h2.dp sk r2) ry
    exact SeqAt.in_tuple_reads q2 q1 (SeqAt.canLay_of_shaped s2) (SeqAt.canLay_of_shaped s1) (room_in_shaped s1 hu) ⟨.bl _, H, I, rfl, hQ _ _ (.here sk (.bl _) h)⟩
  · rw [Bool.false_xor] at h
    cases r1
    cases r2
    exact op_in_str pins s σ H _ _ v u Q I rx ry ⟨i, j, rfl, rfl, hQ _ _ (.here sk (.bl _) h)⟩
theorem zo_notin (hu : X.A.units + 65 < cLine) : ZO2 TB X (compareOp .NotIn) (qIn true) := by
  refine ⟨fun pins s σ H x y v u Q I rx ry h => ?_⟩
  obtain ⟨A, S, wx, wy, Kc, sk, r1, r2, h, hQ⟩ := h
  unfold qIn at h
  replace h := h.ok
  rcases h with ⟨d, ds, h1, h2 | h2, s1, s2, h⟩ | ⟨i, j, rfl, rfl, h⟩
  · rw [Bool.true_xor] at h
    exact op_notInD hu pins s σ H _ _ v u Q I rx ry ⟨d, ds, h1.dp sk r1, h2.dp sk r2, s1, s2, hQ _ _ (.here sk (.bl _) h)⟩
  · rw [Bool.true_xor] at h
    obtain ⟨as, q1⟩ := Dp.reads I d x v (h1.dp sk r1) rx
    obtain ⟨bs, q2⟩ := Dp.reads I (.tuple ds) y u (h2.dp sk r2) ry
    exact SeqAt.notIn_tuple_reads q2 q1 (SeqAt.canLay_of_shaped s2) (SeqAt.canLay_of_shaped s1) (room_in_shaped s1 hu) ⟨.bl _, H, I, rfl, hQ _ _ (.here sk (.bl _) h)⟩
  · rw [Bool.true_xor] at h
    cases r1
    cases r2
    exact op_notIn_str pins s σ H _ _ v u Q I rx ry ⟨i, j, rfl, rfl, hQ _ _ (.here sk (.bl _) h)⟩
/-- is None -/
def isNon : W → Bool
  | .non => true
  | _ => false
@[irreducible] def qIsN (neg : Bool) : Z2' := fun x y S K => Bx (y = .non ∧ K (.bl (neg ^^ isNon x)) S)
theorem Rep.non_iff {K : PySem.W.Frag} {A : List Addr} {H : Hp} {w : W} {v : V} (r : Rep K A H w v) : decide (v = .non) = isNon w := by cases r <;> simp [isNon]
theorem zo_is : ZO2 TB X (compareOp .Is) (qIsN false) := by
  refine ⟨fun pins s σ H x y v u Q I rx ry h => ?_⟩
  obtain ⟨A, S, wx, wy, Kc, sk, r1, r2, h, hQ⟩ := h
  unfold qIsN at h
  replace h := h.ok
  obtain ⟨rfl, h⟩ := h
  cases r2
  rw [Bool.false_xor, ← r1.non_iff] at h
  exact op_isN pins s σ H _ _ v u Q I rx ry ⟨rfl, hQ _ _ (.here sk (.bl _) h)⟩
theorem zo_isnot : ZO2 TB X (compareOp .IsNot) (qIsN true) := by
  refine ⟨fun pins s σ H x y v u Q I rx ry h => ?_⟩
  obtain ⟨A, S, wx, wy, Kc, sk, r1, r2, h, hQ⟩ := h
  unfold qIsN at h
  replace h := h.ok
  obtain ⟨rfl, h⟩ := h
  cases r2
  rw [Bool.true_xor, ← r1.non_iff] at h
  exact op_notN pins s σ H _ _ v u Q I rx ry ⟨rfl, hQ _ _ (.here sk (.bl _) h)⟩
/-- a < b < c -/
theorem z_chain {op op' : CmpOp} {r r' : Z2'} (ho : ZO2 TB X (compareOp op) r) (ho' : ZO2 TB X (compareOp op') r') (ha : ZPE TB X a ta) (hb : ZPE TB X b tb) (hc : ZPE TB X c tc)
    (hm : lastMarks [op, op'] [b, c] = false := by with_unfolding_all rfl) : ZPE TB X (.Compare a [op, op'] [b, c] pos) (zChain r r' ta tb tc) := by
  refine ⟨(pe_chain ho.ok ho'.ok ha.pe hb.pe hc.pe hm).conv fun σ H Q ⟨L, S, A, Kc, s, l, h, hQ⟩ => ?_⟩
  refine ⟨L, S, A, _, s, l, h, fun v1 H1 ⟨A1, S1, w1, ea1, eh1, s1, r1, h1⟩ => ?_⟩
  refine ⟨L, S1, A1, _, s1, l.mono ea1 eh1, h1, fun v2 H2 ⟨A2, S2, w2, ea2, eh2, s2, r2, h2⟩ => ?_⟩
  refine ⟨A2, S2, w1, w2, _, s2, r1.mono ea2 eh2, r2, h2, fun v3 H3 ⟨A3, S3, w3, ea3, eh3, s3, r3, h0⟩ => ?_⟩
  obtain ⟨k, e, h3⟩ := onBl_ex h0
  subst e
  cases r3
  refine ⟨k, rfl, ?_⟩
  have EA := (ea1.trans ea2).trans ea3
  have EH := (eh1.trans eh2).trans eh3
  cases k with
  | true =>
    rw [qIf_t] at h3
    rw [if_pos rfl]
    refine ⟨L, S3, A3, _, s3, l.mono EA EH, h3, fun v4 H4 ⟨A4, S4, w4, ea4, eh4, s4, r4, h4⟩ => ?_⟩
    exact ⟨A4, S4, w2, w4, Kc, s4, r2.mono (ea3.trans ea4) (eh3.trans eh4), r4, h4, fun v H' q => hQ v H' ((q.on ea4 eh4).on EA EH)⟩
  | false =>
    rw [qIf_f] at h3
    rw [if_neg Bool.false_ne_true]
    exact hQ _ _ ((Aft.here s3 (.bl false) h3).on EA EH)
theorem z_tchain {op op' : CmpOp} {r r' : Z2'} (ho : ZO2 TB X (compareOp op) r) (ho' : ZO2 TB X (compareOp op') r') (ha : ZPE TB X a ta) (hb : ZPE TB X b tb) (hc : ZPE TB X c tc)
    (hm : lastMarks [op, op'] [b, c] = false := by with_unfolding_all rfl) (he : ∀ whole, isTrue (.Compare a [op, op'] [b, c] pos) X.env whole = (do let v ← whole; standAt (Expr.Compare a [op, op'] [b, c] pos).pos; holding [v] (truthy v)) := by intro _; rfl) : ZPT TB X (.Compare a [op, op'] [b, c] pos) (zTru (zChain r r' ta tb tc)) :=
  z_truth (z_chain ho ho' ha hb hc hm) he

/-! ### subscripts, slices -/
@[irreducible] def qIx : Z2' := fun x y S K => Bx (match x, y with
  | .tup xs, .int i => ∃ w, atI xs i = some w ∧ K w S
  | .ref n, .int i => ∃ xs, IsLst S n xs ∧ ∃ w, atI xs i = some w ∧ K w S
  | .str z, .int i => ∃ c, z.length ≤ sizeLine ∧ atI z.cps.toList i = some c ∧ K (.str ⟨#[c]⟩) S
  | _, _ => False)
theorem Reps.atI {K : PySem.W.Frag} {A : List Addr} {H : Hp} {ws : List W} {vs : List V} {i : Int} {w : W} (h : Reps K A H ws vs) (e : atI ws i = some w) : ∃ v, L2.atI vs i = some v ∧ Rep K A H w v := by
  unfold L2.atI at e ⊢
  rw [← h.length]
  cases hx : ixN ws.length i with
  | none => rw [hx] at e; cases e
  | some j =>
    rw [hx] at e
    exact h.get e
theorem zi_any : IxR X (low2 X.K TB qIx) := by
  intro value slice pins s σ H x y v u Q I rx ry h hs
  obtain ⟨A, S, wx, wy, Kc, sk, r1, r2, h, hQ⟩ := h
  unfold qIx at h
  replace h := h.ok
  cases r1 with
  | tup h1 q1 =>
    cases r2 with
    | int i =>
      obtain ⟨w, e, k⟩ := h
      obtain ⟨v', e', r⟩ := q1.atI e
      exact ix_tup value slice pins s σ H _ _ v u Q I rx ry ⟨_, _, i, v', rfl, rfl, h1.sq, e', hQ _ _ (.here sk r k)⟩ hs
    | _ => exact False.elim h
  | ref h1 =>
    cases r2 with
    | int i =>
      obtain ⟨xs, hl, w, e, k⟩ := h
      obtain ⟨vs, hq, q1⟩ := sk.seq h1 hl
      obtain ⟨v', e', r⟩ := q1.atI e
      exact ix_list value slice pins s σ H _ _ v u Q I rx ry ⟨_, _, i, v', rfl, rfl, hq, e', hQ _ _ (.here sk r k)⟩ hs
    | _ => exact False.elim h
  | str z =>
    cases r2 with
    | int i =>
      obtain ⟨c, hz, e, k⟩ := h
      exact ix_str value slice pins s σ H _ _ v u Q I rx ry ⟨z, i, c, rfl, rfl, hz, e, hQ _ _ (.here sk (.str _) k)⟩ hs
    | _ => exact False.elim h
  | _ => exact False.elim h
/-- a slice's part -/
abbrev ZO := Loc' → Store → (Option Int → Store → Prop) → Prop
def lowO (K : PySem.W.Frag) (TB : List Addr) (t : ZO) : TO := fun σ H Q => ∃ L S A Kc, SOk K TB A S H ∧ LOk K A H L σ ∧ t L S Kc ∧ ∀ v H' A' S', AExt A A' → HExt H H' → SOk K TB A' S' H' → Kc v S' → Q v H'
structure ZPO (TB : List Addr) (X : Cx) (e : Option Expr) (t : ZO) : Prop where
  po : PO X e (lowO X.K TB t)
def zNoPart : ZO := fun _ S K => K none S
def zPart (t : ZE) : ZO := fun L S K => t L S fun x S1 => onInt (fun i => K (some i) S1) x
theorem PO.conv {oe : Option Expr} {T T' : TO} (h : PO X oe T) (c : ∀ σ H Q, T' σ H Q → T σ H Q) : PO X oe T' := ⟨fun pins s σ H Q I q => h.run pins s σ H Q I (c σ H Q q)⟩
theorem zpo_none : ZPO TB X none zNoPart := ⟨PO.conv po_none fun σ H Q ⟨L, S, A, Kc, s, l, h, hQ⟩ => hQ _ _ A S (.refl _) (.refl _) s h⟩
theorem zpo_some (h : ZPE TB X e te) : ZPO TB X (some e) (zPart te) := ⟨PO.conv (po_some h.pe) fun σ H Q ⟨L, S, A, Kc, s, l, h, hQ⟩ =>
  ⟨L, S, A, _, s, l, h, fun v1 H1 ⟨A1, S1, w1, ea1, eh1, s1, r1, h0⟩ => by obtain ⟨i, e, h1⟩ := onInt_ex h0; subst e; cases r1; exact ⟨i, rfl, hQ _ _ A1 S1 ea1 eh1 s1 h1⟩⟩⟩
/-- xs[lo:hi] -/
def cut {α : Type} (xs : List α) (lo hi : Option Int) : List α := (xs.drop (HT.sIx xs.length 0 lo)).take (HT.sIx xs.length xs.length hi - HT.sIx xs.length 0 lo)
theorem Reps.cut {K : PySem.W.Frag} {A : List Addr} {H : Hp} {ws : List W} {vs : List V} (h : Reps K A H ws vs) (lo hi : Option Int) : Reps K A H (Z.cut ws lo hi) (cutV vs lo hi) := by
  unfold Z.cut cutV
  rw [h.length]
  exact (h.drop _).take _
@[irreducible] def qSl : W → Option Int → Option Int → Store → WK → Prop := fun x lo hi S K => Bx (match x with
  | .tup xs => K (.tup (cut xs lo hi)) S
  | .ref n => ∃ xs, IsLst S n xs ∧ K (.ref S.length) (S ++ [.lst (cut xs lo hi)])
  | _ => False)
def zSl (te : ZE) (tl th : ZO) : ZE := fun L S K => te L S fun x S1 => tl L S1 fun l S2 => th L S2 fun u S3 => qSl x l u S3 K
def lowSl (K : PySem.W.Frag) (TB : List Addr) : V → Option Int → Option Int → Hp → VK → Prop := fun x lo hi H Q => ∃ A S wx Kc, SOk K TB A S H ∧ Rep K A H wx x ∧ qSl wx lo hi S Kc ∧ ∀ v H', Aft K TB A H Kc v H' → Q v H'
theorem zsl_any : SlR X (lowSl X.K TB) := by
  intro pins s σ H x v vl vu lo hi sl Q I rx hs pl pu h
  obtain ⟨A, S, wx, Kc, sk, r1, h, hQ⟩ := h
  unfold qSl at h
  replace h := h.ok
  cases r1 with
  | @tup a xs vs h1 q1 =>
    refine sl_tupA pins s σ H _ v vl vu lo hi sl Q I rx hs pl pu ⟨_, _, rfl, h1.sq, fun ⟨e1, e2⟩ => hQ _ _ ?_, fun _ p hp => hQ _ _ (.tup sk (q1.cut lo hi) hp h)⟩
    have hc : cut xs lo hi = xs := by
      unfold cut
      rw [q1.length, e1, e2]
      simp [← q1.length]
    have h' : Kc (.tup (cut xs lo hi)) S := h
    rw [hc] at h'
    exact .here sk (.tup h1 q1) h'
  | ref h1 =>
    obtain ⟨xs, hl, k⟩ := h
    obtain ⟨vs, hq, q1⟩ := sk.seq h1 hl
    exact sl_list pins s σ H _ v vl vu lo hi sl Q I rx hs pl pu ⟨_, _, rfl, hq, fun p hp => hQ _ _ (.lst sk (q1.cut lo hi) hp k)⟩
  | _ => exact False.elim h
theorem z_sl {lo hi : Option Expr} {tl th : ZO} {p2 : Pos} (he : ZPE TB X e te) (hl : ZPO TB X lo tl) (hu : ZPO TB X hi th) : ZPE TB X (.Subscript e (.Slice lo hi none p2) pos) (zSl te tl th) :=
  ⟨(pe_slice zsl_any he.pe hl.po hu.po).conv fun σ H Q ⟨L, S, A, Kc, s, l, h, hQ⟩ => ⟨L, S, A, _, s, l, h, fun v1 H1 ⟨A1, S1, w1, ea1, eh1, s1, r1, h1⟩ =>
    ⟨L, S1, A1, _, s1, l.mono ea1 eh1, h1, fun o H2 A2 S2 ea2 eh2 s2 h2 => ⟨L, S2, A2, _, s2, l.mono (ea1.trans ea2) (eh1.trans eh2), h2, fun o' H3 A3 S3 ea3 eh3 s3 h3 =>
      ⟨A3, S3, w1, Kc, s3, r1.mono (ea2.trans ea3) (eh2.trans eh3), h3, fun v H' q => hQ v H' (((q.on ea3 eh3).on ea2 eh2).on ea1 eh1)⟩⟩⟩⟩⟩

/-! ### argument lists, displays -/
def zNil : ZA := fun _ S K => K [] S
def zCons (ta : ZE) (tr : ZA) : ZA := fun L S K => ta L S fun x S1 => tr L S1 fun xs S2 => K (x :: xs) S2
theorem zpa_nil : ZPA TB X [] zNil := ⟨pa_nil.conv fun σ H Q ⟨L, S, A, Kc, s, l, h, hQ⟩ => hQ _ _ ⟨A, S, [], .refl _, .refl _, s, .nil, h⟩⟩
theorem zpa_cons {tr : ZA} (ha : ZPE TB X e te) (hr : ZPA TB X es tr) (hs : starEach (e :: es) X.env = (false, eval e X.env) :: starEach es X.env := by rfl) : ZPA TB X (e :: es) (zCons te tr) :=
  ⟨(pa_cons ha.pe hr.pa hs).conv fun σ H Q ⟨L, S, A, Kc, s, l, h, hQ⟩ => ⟨L, S, A, _, s, l, h, fun v1 H1 ⟨A1, S1, w1, ea1, eh1, s1, r1, h1⟩ =>
    ⟨L, S1, A1, _, s1, l.mono ea1 eh1, h1, fun vs H2 ⟨A2, S2, ws, ea2, eh2, s2, r2, h2⟩ => hQ _ _ ⟨A2, S2, w1 :: ws, ea1.trans ea2, eh1.trans eh2, s2, .cons (r1.mono ea2 eh2) r2, h2⟩⟩⟩⟩
def zTup (t : ZA) : ZE := fun L S K => t L S fun xs S1 => xs.length ≤ sizeLine ∧ K (.tup xs) S1
def zLst (t : ZA) : ZE := fun L S K => t L S fun xs S1 => xs.length ≤ sizeLine ∧ K (.ref S1.length) (S1 ++ [.lst xs])
theorem z_tup {x1} {t : ZA} (h : ZPA TB X es t) : ZPE TB X (.Tuple es x1 pos) (zTup t) :=
  ⟨(pe_tup h.pa).conv fun σ H Q ⟨L, S, A, Kc, s, l, h, hQ⟩ => ⟨L, S, A, _, s, l, h, fun vs H1 ⟨A1, S1, ws, ea1, eh1, s1, r1, hz, h1⟩ =>
    ⟨by rw [← r1.length]; exact hz, fun p hp => hQ _ _ ((Aft.tup s1 r1 hp h1).on ea1 eh1)⟩⟩⟩
theorem z_lst {t : ZA} (h : ZPA TB X es t) : ZPE TB X (.List es pos) (zLst t) :=
  ⟨(pe_lst h.pa).conv fun σ H Q ⟨L, S, A, Kc, s, l, h, hQ⟩ => ⟨L, S, A, _, s, l, h, fun vs H1 ⟨A1, S1, ws, ea1, eh1, s1, r1, hz, h1⟩ =>
    ⟨by rw [← r1.length]; exact hz, fun p hp => hQ _ _ ((Aft.lst s1 r1 hp h1).on ea1 eh1)⟩⟩⟩

/-! ### and, or, not, if -/
variable {rest : List Expr}
def zAnd (t u : ZT) : ZT := fun L S K => t L S fun c S1 => qIf c (u L S1 K) (K false S1)
def zOr (t u : ZT) : ZT := fun L S K => t L S fun c S1 => qIf c (K true S1) (u L S1 K)
def zNot (t : ZT) : ZT := fun L S K => t L S fun c S1 => K (!c) S1
theorem zw_and1 (ha : ZPT TB X a t) : ZPW TB X (.BoolOp .And [a] pos) t := ⟨pw_and1 ha.pt⟩
theorem zw_or1 (ha : ZPT TB X a t) : ZPW TB X (.BoolOp .Or [a] pos) t := ⟨pw_or1 ha.pt⟩
theorem zw_and (ha : ZPT TB X a t) (hb : ZPW TB X (.BoolOp .And (b :: rest) pos) u) : ZPW TB X (.BoolOp .And (a :: b :: rest) pos) (zAnd t u) :=
  ⟨(pw_and ha.pt hb.pw).conv fun σ H Q ⟨L, S, A, Kc, s, l, h, hQ⟩ => ⟨L, S, A, _, s, l, h, fun k H1 ⟨A1, S1, ea1, eh1, s1, h1⟩ => by
    cases k with
    | true =>
      rw [qIf_t] at h1
      rw [if_pos rfl]
      exact ⟨L, S1, A1, Kc, s1, l.mono ea1 eh1, h1, fun v H' q => hQ v H' (q.on ea1 eh1)⟩
    | false =>
      rw [qIf_f] at h1
      rw [if_neg Bool.false_ne_true]
      exact hQ _ _ ⟨A1, S1, ea1, eh1, s1, h1⟩⟩⟩
theorem zw_or (ha : ZPT TB X a t) (hb : ZPW TB X (.BoolOp .Or (b :: rest) pos) u) : ZPW TB X (.BoolOp .Or (a :: b :: rest) pos) (zOr t u) :=
  ⟨(pw_or ha.pt hb.pw).conv fun σ H Q ⟨L, S, A, Kc, s, l, h, hQ⟩ => ⟨L, S, A, _, s, l, h, fun k H1 ⟨A1, S1, ea1, eh1, s1, h1⟩ => by
    cases k with
    | false =>
      rw [qIf_f] at h1
      rw [if_neg Bool.false_ne_true]
      exact ⟨L, S1, A1, Kc, s1, l.mono ea1 eh1, h1, fun v H' q => hQ v H' (q.on ea1 eh1)⟩
    | true =>
      rw [qIf_t] at h1
      rw [if_pos rfl]
      exact hQ _ _ ⟨A1, S1, ea1, eh1, s1, h1⟩⟩⟩
theorem ZPW.zt (h : ZPW TB X a t) : ZPT TB X a t := ⟨h.pw.pt⟩
theorem z_tnot (ha : ZPT TB X a t) : ZPT TB X (.UnaryOp .Not a pos) (zNot t) :=
  ⟨(pt_not ha.pt).conv fun σ H Q ⟨L, S, A, Kc, s, l, h, hQ⟩ => ⟨L, S, A, _, s, l, h, fun k H1 ⟨A1, S1, ea1, eh1, s1, h1⟩ => hQ _ _ ⟨A1, S1, ea1, eh1, s1, h1⟩⟩⟩
def zNotV (ta : ZE) : ZE := fun L S K => ta L S fun x S1 => onSome (x.truth S1) fun k => K (.bl (!k)) S1
theorem z_not (ha : ZPE TB X a ta) : ZPE TB X (.UnaryOp .Not a pos) (zNotV ta) :=
  ⟨(pe_notT ha.pe).conv fun σ H Q ⟨L, S, A, Kc, s, l, h, hQ⟩ => ⟨L, S, A, _, s, l, h, fun v1 H1 ⟨A1, S1, w1, ea1, eh1, s1, r1, h0⟩ => let ⟨k, e, h1⟩ := onSome_ex h0; ⟨k, tru_of s1 r1 e, hQ _ _ ((Aft.here s1 (.bl _) h1).on ea1 eh1)⟩⟩⟩
def zAndV (ta tb : ZE) : ZE := fun L S K => ta L S fun x S1 => onSome (x.truth S1) fun k => qIf k (tb L S1 K) (K x S1)
def zOrV (ta tb : ZE) : ZE := fun L S K => ta L S fun x S1 => onSome (x.truth S1) fun k => qIf k (K x S1) (tb L S1 K)
theorem z_one {op} (h : ZPE TB X a ta) : ZPE TB X (.BoolOp op [a] pos) ta := ⟨pe_one h.pe⟩
theorem z_and (ha : ZPE TB X a ta) (hb : ZPE TB X (.BoolOp .And (b :: rest) pos) tb) : ZPE TB X (.BoolOp .And (a :: b :: rest) pos) (zAndV ta tb) :=
  ⟨(pe_andT ha.pe hb.pe).conv fun σ H Q ⟨L, S, A, Kc, s, l, h, hQ⟩ => ⟨L, S, A, _, s, l, h, fun v1 H1 ⟨A1, S1, w1, ea1, eh1, s1, r1, h0⟩ => let ⟨k, e, h1⟩ := onSome_ex h0; ⟨k, tru_of s1 r1 e, by
    cases k with
    | true =>
      rw [qIf_t] at h1
      rw [if_pos rfl]
      exact ⟨L, S1, A1, Kc, s1, l.mono ea1 eh1, h1, fun v H' q => hQ v H' (q.on ea1 eh1)⟩
    | false =>
      rw [qIf_f] at h1
      rw [if_neg Bool.false_ne_true]
      exact hQ _ _ ((Aft.here s1 r1 h1).on ea1 eh1)⟩⟩⟩
theorem z_or (ha : ZPE TB X a ta) (hb : ZPE TB X (.BoolOp .Or (b :: rest) pos) tb) : ZPE TB X (.BoolOp .Or (a :: b :: rest) pos) (zOrV ta tb) :=
  ⟨(pe_orT ha.pe hb.pe).conv fun σ H Q ⟨L, S, A, Kc, s, l, h, hQ⟩ => ⟨L, S, A, _, s, l, h, fun v1 H1 ⟨A1, S1, w1, ea1, eh1, s1, r1, h0⟩ => let ⟨k, e, h1⟩ := onSome_ex h0; ⟨k, tru_of s1 r1 e, by
    cases k with
    | false =>
      rw [qIf_f] at h1
      rw [if_neg Bool.false_ne_true]
      exact ⟨L, S1, A1, Kc, s1, l.mono ea1 eh1, h1, fun v H' q => hQ v H' (q.on ea1 eh1)⟩
    | true =>
      rw [qIf_t] at h1
      rw [if_pos rfl]
      exact hQ _ _ ((Aft.here s1 r1 h1).on ea1 eh1)⟩⟩⟩
def zIf (t : ZT) (ta tb : ZE) : ZE := fun L S K => t L S fun c S1 => qIf c (ta L S1 K) (tb L S1 K)
theorem z_if (hc : ZPT TB X c t) (ha : ZPE TB X a ta) (hb : ZPE TB X b tb) : ZPE TB X (.IfExp c a b pos) (zIf t ta tb) :=
  ⟨(pe_ifExp hc.pt ha.pe hb.pe).conv fun σ H Q ⟨L, S, A, Kc, s, l, h, hQ⟩ => ⟨L, S, A, _, s, l, h, fun k H1 ⟨A1, S1, ea1, eh1, s1, h1⟩ => by
    cases k with
    | true =>
      rw [qIf_t] at h1
      rw [if_pos rfl]
      exact ⟨L, S1, A1, Kc, s1, l.mono ea1 eh1, h1, fun v H' q => hQ v H' (q.on ea1 eh1)⟩
    | false =>
      rw [qIf_f] at h1
      rw [if_neg Bool.false_ne_true]
      exact ⟨L, S1, A1, Kc, s1, l.mono ea1 eh1, h1, fun v H' q => hQ v H' (q.on ea1 eh1)⟩⟩⟩
end
end Z

set_option maxHeartbeats 2000000
/-! Z5: calls, statements, targets. -/
namespace Z
open PySem PySem.Spec PyProof.Rows L2
section
variable {X : Cx} {TB : List Addr} {a b c e o : Expr} {es : List Expr} {ta tb tc te to : ZE} {ts : ZA} {t u : ZT} {pos p apos : Pos} {x : Str} {id T : String}
def zCall (r : ZC) (ts : ZA) : ZE := fun L S K => ts L S fun ws S1 => r ws S1 K
theorem low_call {K : PySem.W.Frag} {r : ZC} {σ : L2.St} {H : Hp} {Q : VK} (h : low K TB (zCall r ts) σ H Q) : tCB (lowC K TB r) (lowA K TB ts) σ H Q := by
  obtain ⟨L, S, A, Kc, s, l, h, hQ⟩ := h
  exact ⟨L, S, A, _, s, l, h, fun vs H1 ⟨A1, S1, ws, ea1, eh1, s1, r1, h1⟩ => ⟨A1, S1, ws, Kc, s1, r1, h1, fun v H' q => hQ v H' (q.on ea1 eh1)⟩⟩
theorem z_callB {r : ZC} (hc : ZOC TB X (.builtin id) r) (hg : Gl X x) (hm : X.mg x = none) (hv : bootBuiltins x = some (.builtin id)) (ha : ZPA TB X (e :: es) ts) (hn : x ≠ "__name__" := by decide) (hdb : (x == ("__debug__" : Str)) = false := by decide)
    (he : starEach (e :: es) X.env = (false, eval e X.env) :: starEach es X.env := by rfl) (hpl : (backTo pos (starEach es X.env)).any (·.1) = false := by rfl) : ZPE TB X (.Call (.Name x p) (e :: es) [] pos) (zCall r ts) :=
  ⟨(pe_callB hc.ok hg hm hv ha.pa hn hdb he hpl).conv fun σ H Q h => low_call h⟩
theorem z_callTy {r : ZC} (hc : ZOC TB X (.type T) r) (hg : Gl X x) (hm : X.mg x = none) (hv : bootBuiltins x = some (.type T)) (ha : ZPA TB X (e :: es) ts) (hn : x ≠ "__name__" := by decide) (hdb : (x == ("__debug__" : Str)) = false := by decide)
    (he : starEach (e :: es) X.env = (false, eval e X.env) :: starEach es X.env := by rfl) (hpl : (backTo pos (starEach es X.env)).any (·.1) = false := by rfl) : ZPE TB X (.Call (.Name x p) (e :: es) [] pos) (zCall r ts) :=
  ⟨(pe_callTy hc.ok hg hm hv ha.pa hn hdb he hpl).conv fun σ H Q h => low_call h⟩

/-! ### len, int, abs, max, min, isinstance, tuple, list, str -/
@[irreducible] def qLen : ZC := fun ws S K => Bx (match ws with
  | [.tup xs] => K (.int xs.length) S
  | [.str z] => z.length ≤ sizeLine ∧ K (.int z.length) S
  | [.ref n] => (∃ xs, IsLst S n xs ∧ K (.int xs.length) S)
  | _ => False)
theorem zc_len : ZOC TB X (.builtin "len") qLen := by
  refine ⟨fun pins s σ H xs us Q I rv h => ?_⟩
  obtain ⟨A, S, ws, Kc, sk, r, h, hQ⟩ := h
  unfold qLen at h
  replace h := h.ok
  cases r with
  | nil => exact h.elim
  | cons r rr =>
    cases rr with
    | cons _ _ => cases r <;> exact h.elim
    | nil =>
      cases r with
      | tup h1 q1 => exact call_len_seq pins s σ H _ us Q I rv ⟨_, _, rfl, .inr h1.sq, by rw [← q1.length]; exact hQ _ _ (.here sk (.int _) h)⟩
      | str z => exact call_len_str pins s σ H _ us Q I rv ⟨z, rfl, h.1, hQ _ _ (.here sk (.int _) h.2)⟩
      | ref h1 =>
        obtain ⟨ys, e1, k⟩ := h
        obtain ⟨vs, hq, q1⟩ := sk.seq h1 e1
        exact call_len_seq pins s σ H _ us Q I rv ⟨_, _, rfl, .inl hq, by rw [← q1.length]; exact hQ _ _ (.here sk (.int _) k)⟩
      | _ => exact h.elim
def qInt : ZC := fun ws S K => match ws with
  | [.int i] => K (.int i) S
  | [.bl b] => K (.int (if b then 1 else 0)) S
  | _ => False
theorem zc_int : ZOC TB X (.type "int") qInt := by
  refine ⟨fun pins s σ H xs us Q I rv h => ?_⟩
  obtain ⟨A, S, ws, Kc, sk, r, h, hQ⟩ := h
  cases r with
  | nil => exact h.elim
  | cons r rr =>
    cases rr with
    | cons _ _ => cases r <;> exact h.elim
    | nil =>
      cases r with
      | int i => exact call_int1 pins s σ H _ us Q I rv (.inl ⟨_, rfl, hQ _ _ (.here sk (.int _) h)⟩)
      | bl i => exact call_int1 pins s σ H _ us Q I rv (.inr ⟨_, rfl, hQ _ _ (.here sk (.int _) h)⟩)
      | _ => exact h.elim
def qAbs : ZC := fun ws S K => match ws with
  | [.int i] => K (.int (if i < 0 then -i else i)) S
  | _ => False
theorem zc_abs : ZOC TB X (.builtin "abs") qAbs := by
  refine ⟨fun pins s σ H xs us Q I rv h => ?_⟩
  obtain ⟨A, S, ws, Kc, sk, r, h, hQ⟩ := h
  cases r with
  | nil => exact h.elim
  | cons r rr =>
    cases rr with
    | cons _ _ => cases r <;> exact h.elim
    | nil =>
      cases r with
      | int i => exact call_abs pins s σ H _ us Q I rv ⟨_, rfl, hQ _ _ (.here sk (.int _) h)⟩
      | _ => exact h.elim
def qMax2 : ZC := fun ws S K => match ws with
  | [.int i, .int j] => K (.int (if j > i then j else i)) S
  | _ => False
def qMin2 : ZC := fun ws S K => match ws with
  | [.int i, .int j] => K (.int (if j < i then j else i)) S
  | _ => False
theorem zc_max2 (hc : X.calm = true) : ZOC TB X (.builtin "max") qMax2 := by
  refine ⟨fun pins s σ H xs us Q I rv h => ?_⟩
  obtain ⟨A, S, ws, Kc, sk, r, h, hQ⟩ := h
  unfold qMax2 at h
  split at h
  · cases r with
    | cons r1 r =>
      cases r with
      | cons r2 r =>
        cases r1
        cases r2
        cases r
        exact call_max2 hc pins s σ H _ us Q I rv ⟨_, _, rfl, hQ _ _ (.here sk (.int _) h)⟩
  · exact h.elim
theorem zc_min2 (hc : X.calm = true) : ZOC TB X (.builtin "min") qMin2 := by
  refine ⟨fun pins s σ H xs us Q I rv h => ?_⟩
  obtain ⟨A, S, ws, Kc, sk, r, h, hQ⟩ := h
  unfold qMin2 at h
  split at h
  · cases r with
    | cons r1 r =>
      cases r with
      | cons r2 r =>
        cases r1
        cases r2
        cases r
        exact call_min2 hc pins s σ H _ us Q I rv ⟨_, _, rfl, hQ _ _ (.here sk (.int _) h)⟩
  · exact h.elim
/-- the name of a value's type -/
def W.tyName (S : Store) : W → Option String
  | .non => some "NoneType"
  | .bl _ => some "bool"
  | .int _ => some "int"
  | .str _ => some "str"
  | .tup _ => some "tuple"
  | .ref n => match S[n]? with
    | some (.lst _) => some "list"
    | some (.frz _) => some "list"
    | some (.dic _) => some "dict"
    | none => none
  | .ty _ => none
@[irreducible] def qIsi : ZC := fun ws S K => Bx (match ws with
  | [x, .ty T] => ∃ n b, x.tyName S = some n ∧ kitB n T = some b ∧ K (.bl b) S
  | _ => False)
theorem zc_isi : ZOC TB X (.builtin "isinstance") qIsi := by
  refine ⟨fun pins s σ H xs us Q I rv h => ?_⟩
  obtain ⟨A, S, ws, Kc, sk, r, h, hQ⟩ := h
  unfold qIsi at h
  replace h := h.ok
  split at h
  · rename_i wx T
    obtain ⟨n, b, e1, e2, k⟩ := h
    cases r with
    | cons r1 r =>
      cases r with
      | cons r2 r =>
        cases r2
        cases r
        have key : ∀ (v : V), Rep X.K A H wx v → TyX X.K H v (.type n) := by
          intro v r1
          cases r1 with
          | non => cases e1; exact .base .non
          | bl _ => cases e1; exact .base (.bl _)
          | int _ => cases e1; exact .base (.int _)
          | str _ => cases e1; exact .base (.str _)
          | tup h1 _ =>
            cases e1
            rcases h1 with h1 | ⟨o, _, _, h1, h2, _⟩
            · exact .base (.tup h1)
            · exact .kTuple h1 h2
          | @ref a n' h1 =>
            cases hc : S[n']? with
            | none => simp [W.tyName, hc] at e1
            | some o =>
              cases o with
              | lst xs =>
                simp only [W.tyName, hc, Option.some.injEq] at e1
                subst e1
                obtain ⟨vs, e, _⟩ := sk.cell n' a _ h1 hc
                exact .base (.lst e)
              | frz xs =>
                simp only [W.tyName, hc, Option.some.injEq] at e1
                subst e1
                obtain ⟨vs, e, _⟩ := sk.cell n' a _ h1 hc
                rcases e with ⟨o, e⟩ | ⟨o, _, _, e, h2, _⟩
                · exact .base (.frz e)
                · exact .kList e h2
              | dic xs =>
                simp only [W.tyName, hc, Option.some.injEq] at e1
                subst e1
                obtain ⟨vs, e, _⟩ := sk.cell n' a _ h1 hc
                exact .base (.dK e)
          | ty _ => cases e1
        exact call_isi pins s σ H _ us Q I rv ⟨_, _, _, _, b, rfl, .ty _, key _ r1, kit_ty e2, hQ _ _ (.here sk (.bl _) k)⟩
  · exact h.elim
@[irreducible] def qTup : ZC := fun ws S K => Bx (match ws with
  | [.tup xs] => K (.tup xs) S
  | [.ref n] => ∃ xs, IsLst S n xs ∧ K (.tup xs) S
  | _ => False)
theorem zc_tup : ZOC TB X (.type "tuple") qTup := by
  refine ⟨fun pins s σ H xs us Q I rv h => ?_⟩
  obtain ⟨A, S, ws, Kc, sk, r, h, hQ⟩ := h
  unfold qTup at h
  replace h := h.ok
  cases r with
  | nil => exact h.elim
  | cons r rr =>
    cases rr with
    | cons _ _ => cases r <;> exact h.elim
    | nil =>
      cases r with
      | tup h1 q1 => exact call_tuple_of pins s σ H _ us Q I rv ⟨_, _, rfl, .inr ⟨h1.sq, hQ _ _ (.here sk (.tup h1 q1) h)⟩⟩
      | ref h1 =>
        obtain ⟨ys, e1, k⟩ := h
        obtain ⟨vs, hq, q1⟩ := sk.seq h1 e1
        exact call_tuple_of pins s σ H _ us Q I rv ⟨_, _, rfl, .inl ⟨hq, fun l hl => hQ _ _ (.tup sk q1 hl k)⟩⟩
      | _ => exact h.elim
@[irreducible] def qList : ZC := fun ws S K => Bx (match ws with
  | [.tup xs] => K (.ref S.length) (S ++ [.lst xs])
  | [.ref n] => ∃ xs, IsLst S n xs ∧ K (.ref S.length) (S ++ [.lst xs])
  | _ => False)
theorem zc_list : ZOC TB X (.type "list") qList := by
  refine ⟨fun pins s σ H xs us Q I rv h => ?_⟩
  obtain ⟨A, S, ws, Kc, sk, r, h, hQ⟩ := h
  unfold qList at h
  replace h := h.ok
  cases r with
  | nil => exact h.elim
  | cons r rr =>
    cases rr with
    | cons _ _ => cases r <;> exact h.elim
    | nil =>
      cases r with
      | tup h1 q1 => exact call_list_of pins s σ H _ us Q I rv ⟨_, _, rfl, .inr h1.sq, fun l hl => hQ _ _ (.lst sk q1 hl h)⟩
      | ref h1 =>
        obtain ⟨ys, e1, k⟩ := h
        obtain ⟨vs, hq, q1⟩ := sk.seq h1 e1
        exact call_list_of pins s σ H _ us Q I rv ⟨_, _, rfl, .inl hq, fun l hl => hQ _ _ (.lst sk q1 hl k)⟩
      | _ => exact h.elim
@[irreducible] def qStr : ZC := fun ws S K => Bx (match ws with
  | [.int i] => i.natAbs.log2 < 1920 ∧ K (.str (toString i)) S
  | _ => False)
theorem zc_str : ZOC TB X (.type "str") qStr := by
  refine ⟨fun pins s σ H xs us Q I rv h => ?_⟩
  obtain ⟨A, S, ws, Kc, sk, r, h, hQ⟩ := h
  unfold qStr at h
  replace h := h.ok
  cases r with
  | nil => exact h.elim
  | cons r rr =>
    cases rr with
    | cons _ _ => cases r <;> exact h.elim
    | nil =>
      cases r with
      | int i => exact call_str_int pins s σ H _ us Q I rv ⟨_, rfl, h.1, hQ _ _ (.here sk (.str _) h.2)⟩
      | _ => exact h.elim

/-! ### methods of lists -/
abbrev ZM := W → List W → Store → WK → Prop
def lowM (K : PySem.W.Frag) (TB : List Addr) (r : ZM) : V → List V → Hp → VK → Prop := fun x xs H Q => ∃ A S wx ws Kc, SOk K TB A S H ∧ Rep K A H wx x ∧ Reps K A H ws xs ∧ r wx ws S Kc ∧ ∀ v H', Aft K TB A H Kc v H' → Q v H'
structure ZOM (TB : List Addr) (X : Cx) (id : String) (r : ZM) : Prop where
  ok : MtR X id (lowM X.K TB r)
/-- the receiver is a list -/
def onLst (x : W) (S1 : Store) (P : Prop) : Prop := (∃ n xs, x = .ref n ∧ IsLst S1 n xs) ∧ P
def zMl (r : ZM) (to : ZE) (ts : ZA) : ZE := fun L S K => to L S fun x S1 => onLst x S1 (ts L S1 fun ws S2 => r x ws S2 K)
theorem z_ml {name : Str} {r : ZM} (slot : Slot "list" name id) (hty : typeOf (.builtin id) = pure (.type "method_descriptor")) (hm : ZOM TB X id r) (ho : ZPE TB X o to) (ha : ZPA TB X (e :: es) ts)
    (hbase : attributeBase o name X.env (eval o X.env) = eval o X.env := by rfl)
    (hfew : ((backTo pos (starEach (e :: es) X.env)).all (fun x => !x.1) && (backToKw pos (keywordEach [] X.env)).all (fun x => x.1.isSome)
      && decide ((e :: es).length + ([] : List Keyword).length + (if ([] : List Keyword).isEmpty then 0 else 1) < 30)) = true := by rfl)
    (hline : (apos.endLine == pos.line) = true := by rfl) (hs : starEach (e :: es) X.env = (false, eval e X.env) :: starEach es X.env := by rfl) (hplain : (backTo pos (starEach es X.env)).any (·.1) = false := by rfl) :
    ZPE TB X (.Call (.Attribute o name apos) (e :: es) [] pos) (zMl r to ts) :=
  ⟨(pe_bm PySem.F.plainAttrs_list slot hty hm.ok ho.pe ha.pa hbase hfew hline hs hplain).conv fun σ H Q ⟨L, S, A, Kc, s, l, h, hQ⟩ => ⟨L, S, A, _, s, l, h, fun v1 H1 ⟨A1, S1, w1, ea1, eh1, s1, r1, ⟨n, xs, en, hn⟩, h1⟩ => by
    subst en
    cases r1 with
    | ref ha1 =>
      obtain ⟨vs, hq, _⟩ := s1.seq ha1 hn
      refine ⟨.inl ⟨rfl, vs, hq⟩, L, S1, A1, _, s1, l.mono ea1 eh1, h1, fun xs H2 ⟨A2, S2, ws, ea2, eh2, s2, r2, h2⟩ => ?_⟩
      exact ⟨A2, S2, .ref n, ws, Kc, s2, .ref (ea2 _ _ ha1), r2, h2, fun v H' q => hQ v H' ((q.on ea2 eh2).on ea1 eh1)⟩⟩⟩
theorem z_ml0 {name : Str} {r : ZM} (slot : Slot "list" name id) (hty : typeOf (.builtin id) = pure (.type "method_descriptor")) (hm : ZOM TB X id r) (ho : ZPE TB X o to)
    (hbase : attributeBase o name X.env (eval o X.env) = eval o X.env := by rfl) (hline : (apos.endLine == pos.line) = true := by rfl) :
    ZPE TB X (.Call (.Attribute o name apos) [] [] pos) (zMl r to zNil) :=
  ⟨(pe_bm0 PySem.F.plainAttrs_list slot hty hm.ok ho.pe hbase hline).conv fun σ H Q ⟨L, S, A, Kc, s, l, h, hQ⟩ => ⟨L, S, A, _, s, l, h, fun v1 H1 ⟨A1, S1, w1, ea1, eh1, s1, r1, ⟨n, xs, en, hn⟩, h1⟩ => by
    subst en
    cases r1 with
    | ref ha1 =>
      obtain ⟨vs, hq, _⟩ := s1.seq ha1 hn
      exact ⟨.inl ⟨rfl, vs, hq⟩, A1, S1, .ref n, [], Kc, s1, .ref ha1, .nil, h1, fun v H' q => hQ v H' (q.on ea1 eh1)⟩⟩⟩
@[irreducible] def qAppend : ZM := fun x ws S K => Bx (match x, ws with
  | .ref n, [w] => ∃ xs, S[n]? = some (.lst xs) ∧ xs.length < sizeLine ∧ K .non (S.set n (.lst (xs ++ [w])))
  | _, _ => False)
theorem zm_append : ZOM TB X "list.append" qAppend := by
  refine ⟨fun pins s σ H x xs v us Q I rx rv h => ?_⟩
  obtain ⟨A, S, wx, ws, Kc, sk, r1, r, h, hQ⟩ := h
  unfold qAppend at h
  replace h := h.ok
  split at h
  · obtain ⟨ys, e1, hz, k⟩ := h
    cases r1 with
    | ref h1 =>
      cases r with
      | cons r2 r =>
        cases r
        obtain ⟨vs, f, q⟩ := sk.lst h1 e1
        exact mt_append pins s σ H _ _ v us Q I rx rv ⟨_, _, _, rfl, rfl, f, by rw [← q.length]; exact hz, hQ _ _ (.set sk h1 e1 (q.append (.cons r2 .nil)) .non k)⟩
  · exact h.elim
/-- xs.pop(), xs.pop(i) -/
@[irreducible] def qPop : ZM := fun x ws S K => Bx (match x, ws with
  | .ref n, [] => ∃ xs y, S[n]? = some (.lst xs) ∧ xs[xs.length - 1]? = some y ∧ K y (S.set n (.lst xs.dropLast))
  | .ref n, [.int i] => ∃ xs k y, S[n]? = some (.lst xs) ∧ -(2 ^ 63) ≤ i ∧ i < 2 ^ 63 ∧ seqIndex? i xs.length = some k ∧ xs[k]? = some y ∧ K y (S.set n (.lst (xs.eraseIdx k)))
  | _, _ => False)
theorem Reps.dropLast {K : PySem.W.Frag} {A : List Addr} {H : Hp} {ws : List W} {vs : List V} (h : Reps K A H ws vs) : Reps K A H ws.dropLast vs.dropLast := by
  rw [List.dropLast_eq_take, List.dropLast_eq_take, h.length]
  exact h.take _
theorem zm_pop : ZOM TB X "list.pop" qPop := by
  refine ⟨fun pins s σ H x xs v us Q I rx rv h => ?_⟩
  obtain ⟨A, S, wx, ws, Kc, sk, r1, r, h, hQ⟩ := h
  unfold qPop at h
  replace h := h.ok
  split at h
  · obtain ⟨ys, y, e1, hz, k⟩ := h
    cases r1 with
    | ref h1 =>
      cases r
      obtain ⟨vs, f, q⟩ := sk.lst h1 e1
      obtain ⟨v', hv', rv'⟩ := q.get hz
      exact mt_pop pins s σ H _ _ v us Q I rx rv ⟨_, _, v', rfl, rfl, f, by rw [← q.length]; exact hv', hQ _ _ (.set sk h1 e1 q.dropLast rv' k)⟩
  · obtain ⟨ys, j, y, e1, b1, b2, b3, hz, k⟩ := h
    cases r1 with
    | ref h1 =>
      cases r with
      | cons r2 r =>
        cases r2
        cases r
        obtain ⟨vs, f, q⟩ := sk.lst h1 e1
        obtain ⟨v', hv', rv'⟩ := q.get hz
        exact mt_popAt pins s σ H _ _ v us Q I rx rv ⟨_, _, _, j, v', rfl, rfl, f, b1, b2, by rw [← q.length]; exact b3, hv', hQ _ _ (.set sk h1 e1 (q.eraseIdx j) rv' k)⟩
  · exact h.elim
@[irreducible] def qInsert : ZM := fun x ws S K => Bx (match x, ws with
  | .ref n, [.int i, w] => ∃ xs, S[n]? = some (.lst xs) ∧ xs.length < sizeLine ∧ 0 ≤ i ∧ i < 2 ^ 63 ∧ K .non (S.set n (.lst (xs.take i.toNat ++ [w] ++ xs.drop i.toNat)))
  | _, _ => False)
theorem zm_insert : ZOM TB X "list.insert" qInsert := by
  refine ⟨fun pins s σ H x xs v us Q I rx rv h => ?_⟩
  obtain ⟨A, S, wx, ws, Kc, sk, r1, r, h, hQ⟩ := h
  unfold qInsert at h
  replace h := h.ok
  split at h
  · obtain ⟨ys, e1, hz, b1, b2, k⟩ := h
    cases r1 with
    | ref h1 =>
      cases r with
      | cons r2 r =>
        cases r with
        | cons r3 r =>
          cases r2
          cases r
          obtain ⟨vs, f, q⟩ := sk.lst h1 e1
          exact mt_insert pins s σ H _ _ v us Q I rx rv ⟨_, _, _, _, rfl, rfl, f, by rw [← q.length]; exact hz, b1, b2, hQ _ _ (.set sk h1 e1 (((q.take _).append (.cons r3 .nil)).append (q.drop _)) .non k)⟩
  · exact h.elim
/-- xs.extend(ys), ys another list -/
@[irreducible] def qExtend : ZM := fun x ws S K => Bx (match x, ws with
  | .ref n, [.ref m] => ∃ xs ys, S[n]? = some (.lst xs) ∧ S[m]? = some (.lst ys) ∧ xs.length + ys.length ≤ sizeLine ∧ K .non (S.set n (.lst (xs ++ ys)))
  | _, _ => False)
theorem zm_extend : ZOM TB X "list.extend" qExtend := by
  refine ⟨fun pins s σ H x xs v us Q I rx rv h => ?_⟩
  obtain ⟨A, S, wx, ws, Kc, sk, r1, r, h, hQ⟩ := h
  unfold qExtend at h
  replace h := h.ok
  split at h
  · obtain ⟨ys, zs, e1, e2, hz, k⟩ := h
    cases r1 with
    | ref h1 =>
      cases r with
      | cons r2 r =>
        cases r2 with
        | ref h2 =>
          cases r
          obtain ⟨vs, f, q⟩ := sk.lst h1 e1
          obtain ⟨vs2, f2, q2⟩ := sk.lst h2 e2
          exact mt_extend pins s σ H _ _ v us Q I rx rv ⟨_, _, _, _, rfl, rfl, f, f2, by rw [← q.length, ← q2.length]; exact hz, hQ _ _ (.set sk h1 e1 (q.append q2) .non k)⟩
  · exact h.elim
/-- xs.index(y): the first place of an equal one -/
@[irreducible] def qIndex : ZM := fun x ws S K => Bx (match x, ws with
  | .ref n, [y] => ∃ d ds j z, DataOf S (.ref n) (.list ds) ∧ DataOf S y d ∧ SeqAt.shaped (.list ds) = true ∧ SeqAt.shaped d = true ∧ ds[j]? = some z ∧ PyData.eqv z d = true ∧
      (∀ (m : Nat) (z' : PyData), m < j → ds[m]? = some z' → PyData.eqv z' d = false) ∧ K (.int (j : Nat)) S
  | _, _ => False)
theorem zm_index (hu : X.A.units + 65 < cLine) : ZOM TB X "list.index" qIndex := by
  refine ⟨fun pins s σ H x xs v us Q I rx rv h => ?_⟩
  obtain ⟨A, S, wx, ws, Kc, sk, r1, r, h, hQ⟩ := h
  unfold qIndex at h
  replace h := h.ok
  split at h
  · obtain ⟨d, ds, j, z, h1, h2, s1, s2, b1, b2, b3, k⟩ := h
    cases r1 with
    | ref ha =>
      cases r with
      | cons r2 r =>
        cases r
        exact mt_indexD hu pins s σ H _ _ v us Q I rx rv ⟨_, _, d, ds, j, z, rfl, rfl, h1.dp sk (.ref ha), h2.dp sk r2, s1, s2, b1, b2, b3, hQ _ _ (.here sk (.int _) k)⟩
  · exact h.elim

/-! ### calls of the text's own defs -/
/-- a def's promise over the store -/
def lowF (K : PySem.W.Frag) (TB : List Addr) (n : Nat) (sp : ZC) : Sp := fun vs H Q _ => vs.length = n ∧ lowC K TB sp vs H Q
abbrev ZFn (P : Program) (w : World) (K : PySem.W.Frag) (mg : Str → Option Value) (base : Heap) (TB : List Addr) (k : Nat) (f : Addr) (fd : FuncData) (ps : List Str) (sp : ZC) : Prop :=
  FnOk P w K mg base CX0 k f fd ps (lowF K TB ps.length sp)
def zCallF (n : Nat) (r : ZC) (ts : ZA) : ZE := fun L S K => ts L S fun ws S1 => qAr ws.length n (r ws S1 K)
theorem z_call {k : Nat} {f : Addr} {fd : FuncData} {ps : List Str} {sp : ZC} (F : ZFn X.prog X.w X.K X.mg X.base TB k f fd ps sp) (hr : Room k X.A) (hg : Gl X x) (hm : X.mg x = some (.ref f)) (hk : PySem.W.keepIn X.K (.ref f) = true) (hb : Binds X.K fd ps [])
    (ha : ZPA TB X (e :: es) ts) (hdb : (x == ("__debug__" : Str)) = false := by decide) (he : starEach (e :: es) X.env = (false, eval e X.env) :: starEach es X.env := by rfl) (hpl : (backTo pos (starEach es X.env)).any (·.1) = false := by rfl) :
    ZPE TB X (.Call (.Name x p) (e :: es) [] pos) (zCallF ps.length sp ts) :=
  ⟨(pe_call F hr hg hm hk hb .nil pass0 ha.pa hdb he hpl).conv fun σ H Q ⟨L, S, A, Kc, s, l, h, hQ⟩ => ⟨L, S, A, _, s, l, h, fun vs H1 ⟨A1, S1, ws, ea1, eh1, s1, r1, h0⟩ => by
    obtain ⟨hl, h1⟩ := qAr_ex h0
    show lowF X.K TB ps.length sp (vs ++ []) H1 Q E0
    rw [List.append_nil]
    exact ⟨by rw [← r1.length]; exact hl, A1, S1, ws, Kc, s1, r1, h1, fun v H' q => hQ v H' (q.on ea1 eh1)⟩⟩⟩
end

/-! ### statements -/
section
variable {K : PySem.W.Frag} {TB A A1 : List Addr} {H H1 : Hp}
theorem lowS_of {t : ZS} {D : Ends} {σ : L2.St} {L : Loc'} {S : Store} {ZD : ZEnds} (s : SOk K TB A S H) (l : LOk K A H L σ) (h : t ZD L S) (h1 : ∀ σ' H', AftS K TB A H ZD.nx σ' H' → D.nx σ' H') (h2 : ∀ v H', Aft K TB A H ZD.rt v H' → D.rt v H')
    (h3 : ∀ σ' H', AftS K TB A H ZD.bk σ' H' → D.bk σ' H') (h4 : ∀ σ' H', AftS K TB A H ZD.ct σ' H' → D.ct σ' H') : lowS K TB t D σ H := ⟨L, S, A, ZD, s, l, h, h1, h2, h3, h4⟩
end
section
variable {X : Cx} {TB : List Addr} {st : Stmt} {rest : List Stmt} {t u : ZS} {e : Expr} {te : ZE} {tt : ZT} {pos : Pos}
def zNext : ZS := fun D L S => D.nx L S
def zSeq (t u : ZS) : ZS := fun D L S => t { D with nx := u D } L S
theorem AftS.here {K : PySem.W.Frag} {TB A : List Addr} {H : Hp} {Kc : Loc' → Store → Prop} {σ : L2.St} {L : Loc'} {S : Store} (s : SOk K TB A S H) (l : LOk K A H L σ) (k : Kc L S) : AftS K TB A H Kc σ H := ⟨A, S, L, .refl _, .refl _, s, l, k⟩
theorem zs_nil : ZPSs TB X [] zNext := ⟨pss_nil.conv fun D σ H ⟨L, S, A, ZD, s, l, h, h1, _⟩ => h1 _ _ (.here s l h)⟩
theorem zs_cons (h1 : ZPS TB X st t) (h2 : ZPSs TB X rest u) : ZPSs TB X (st :: rest) (zSeq t u) :=
  ⟨(pss_cons h1.ps h2.ps).conv fun D σ H ⟨L, S, A, ZD, s, l, h, k1, k2, k3, k4⟩ => lowS_of s l h (fun σ' H' ⟨A1, S1, L1, ea, eh, s1, l1, q⟩ => lowS_of s1 l1 q (fun _ _ z => k1 _ _ (z.on ea eh)) (fun _ _ z => k2 _ _ (z.on ea eh)) (fun _ _ z => k3 _ _ (z.on ea eh)) (fun _ _ z => k4 _ _ (z.on ea eh))) k2 k3 k4⟩
theorem zs_one (h1 : ZPS TB X st t) : ZPSs TB X [st] t := ⟨pss_one h1.ps⟩
def zBreak : ZS := fun D L S => D.bk L S
def zCont : ZS := fun D L S => D.ct L S
theorem z_pass : ZPS TB X (.Pass pos) zNext := ⟨ps_pass.conv fun D σ H ⟨L, S, A, ZD, s, l, h, h1, _⟩ => h1 _ _ (.here s l h)⟩
theorem z_break : ZPS TB X (.Break pos) zBreak := ⟨ps_break.conv fun D σ H ⟨L, S, A, ZD, s, l, h, _, _, h1, _⟩ => h1 _ _ (.here s l h)⟩
theorem z_continue : ZPS TB X (.Continue pos) zCont := ⟨ps_continue.conv fun D σ H ⟨L, S, A, ZD, s, l, h, _, _, _, h1⟩ => h1 _ _ (.here s l h)⟩
theorem z_doc {x j pos pos'} : ZPS TB X (.Expr (.Constant (.str x) j pos) pos') zNext := ⟨ps_doc.conv fun D σ H ⟨L, S, A, ZD, s, l, h, h1, _⟩ => h1 _ _ (.here s l h)⟩
def zDrop (te : ZE) : ZS := fun D L S => te L S fun _ S1 => D.nx L S1
theorem z_expr (he : ZPE TB X e te) (hs : swapsWith e none pos.line X.env = pure false := by rfl) : ZPS TB X (.Expr e pos) (zDrop te) :=
  ⟨(ps_expr he.pe hs).conv fun D σ H ⟨L, S, A, ZD, s, l, h, h1, _⟩ => ⟨L, S, A, _, s, l, h, fun v H' ⟨A1, S1, w, ea, eh, s1, r, q⟩ => h1 _ _ ⟨A1, S1, L, ea, eh, s1, l.mono ea eh, q⟩⟩⟩
def zRet (te : ZE) : ZS := fun D L S => te L S D.rt
theorem z_ret (he : ZPE TB X e te) : ZPS TB X (.Return (some e) pos) (zRet te) := ⟨(ps_ret he.pe).conv fun D σ H ⟨L, S, A, ZD, s, l, h, _, h1, _⟩ => ⟨L, S, A, _, s, l, h, h1⟩⟩
def zRetN : ZS := fun D L S => D.rt .non S
theorem z_retN : ZPS TB X (.Return none pos) zRetN := ⟨ps_retN.conv fun D σ H ⟨L, S, A, ZD, s, l, h, _, h1, _⟩ => h1 _ _ (.here s .non h)⟩
def zIfS (c : ZT) (t u : ZS) : ZS := fun D L S => c L S fun b S1 => qIf b (t D L S1) (u D L S1)
theorem z_ifS {c : Expr} {a b : List Stmt} (hc : ZPT TB X c tt) (ha : ZPSs TB X a t) (hb : ZPSs TB X b u) : ZPS TB X (.If c a b pos) (zIfS tt t u) :=
  ⟨(ps_if hc.pt ha.ps hb.ps).conv fun D σ H ⟨L, S, A, ZD, s, l, h, k1, k2, k3, k4⟩ => ⟨L, S, A, _, s, l, h, fun v H' ⟨A1, S1, ea, eh, s1, q⟩ => by
    cases v with
    | true =>
      rw [qIf_t] at q
      rw [if_pos rfl]
      exact lowS_of s1 (l.mono ea eh) q (fun _ _ z => k1 _ _ (z.on ea eh)) (fun _ _ z => k2 _ _ (z.on ea eh)) (fun _ _ z => k3 _ _ (z.on ea eh)) (fun _ _ z => k4 _ _ (z.on ea eh))
    | false =>
      rw [qIf_f] at q
      rw [if_neg Bool.false_ne_true]
      exact lowS_of s1 (l.mono ea eh) q (fun _ _ z => k1 _ _ (z.on ea eh)) (fun _ _ z => k2 _ _ (z.on ea eh)) (fun _ _ z => k3 _ _ (z.on ea eh)) (fun _ _ z => k4 _ _ (z.on ea eh))⟩⟩
/-- code that is never reached -/
def zNever : ZS := fun _ _ _ => False
theorem z_never : ZPS TB X st zNever := ⟨ps_never.conv fun D σ H ⟨L, S, A, ZD, s, l, h, _⟩ => h⟩

/-! ### targets -/
abbrev ZTG := W → Loc' → Store → (Loc' → Store → Prop) → Prop
abbrev ZTGs := List W → Loc' → Store → (Loc' → Store → Prop) → Prop
def lowG (K : PySem.W.Frag) (TB : List Addr) (t : ZTG) : TG := fun v σ H Q => ∃ L S A w Kc, SOk K TB A S H ∧ LOk K A H L σ ∧ Rep K A H w v ∧ t w L S Kc ∧ ∀ σ' H', AftS K TB A H Kc σ' H' → Q σ' H'
def lowGs (K : PySem.W.Frag) (TB : List Addr) (t : ZTGs) : TGs := fun v σ H Q => ∃ L S A w Kc, SOk K TB A S H ∧ LOk K A H L σ ∧ Reps K A H w v ∧ t w L S Kc ∧ ∀ σ' H', AftS K TB A H Kc σ' H' → Q σ' H'
structure ZPG (TB : List Addr) (X : Cx) (e : Expr) (t : ZTG) : Prop where
  pg : PG X e (lowG X.K TB t)
structure ZPGs (TB : List Addr) (X : Cx) (e : List Expr) (t : ZTGs) : Prop where
  pg : PGs X e (lowGs X.K TB t)
theorem _root_.L2.PG.conv {T T' : TG} (h : PG X e T) (c : ∀ v σ H Q, T' v σ H Q → T v σ H Q) : PG X e T' := ⟨fun pins s σ H v u Q I r q => h.run pins s σ H v u Q I r (c v σ H Q q)⟩
theorem _root_.L2.PGs.conv {es : List Expr} {T T' : TGs} (h : PGs X es T) (c : ∀ v σ H Q, T' v σ H Q → T v σ H Q) : PGs X es T' := ⟨fun pins s σ H v u Q I r q => h.run pins s σ H v u Q I r (c v σ H Q q)⟩
def zgName (i : Nat) : ZTG := fun w L S K => qLet i (some w) L fun L' => K L' S
theorem zg_name {i : Nat} {x : Str} (hN : X.N.Nodup) (hi : X.N[i]? = some x) (hx : Loc X.env.scope x) (hf : X.fn x = true ∨ X.env.scope.names.lookup x = some .local := by first | exact .inl rfl | exact .inr rfl | assumption) : ZPG TB X (.Name x pos) (zgName i) :=
  ⟨(pg_name hN hi hx hf).conv fun v σ H Q ⟨L, S, A, w, Kc, s, l, r, h, hQ⟩ => hQ _ _ (.here s (l.set r i) (qLet_iff.mp h))⟩
def zgNil : ZTGs := fun ws L S K => match ws with
  | [] => K L S
  | _ => False
def zgCons (t : ZTG) (u : ZTGs) : ZTGs := fun ws L S K => match ws with
  | w :: r => t w L S fun L' S' => u r L' S' K
  | [] => False
theorem zgNil_ex {ws : List W} {L : Loc'} {S : Store} {K : Loc' → Store → Prop} (h : zgNil ws L S K) : ws = [] ∧ K L S := by
  cases ws with
  | nil => exact ⟨rfl, h⟩
  | cons _ _ => exact h.elim
theorem zgCons_ex {t : ZTG} {u : ZTGs} {ws : List W} {L : Loc'} {S : Store} {K : Loc' → Store → Prop} (h : zgCons t u ws L S K) : ∃ w r, ws = w :: r ∧ t w L S fun L' S' => u r L' S' K := by
  cases ws with
  | nil => exact h.elim
  | cons w r => exact ⟨w, r, rfl, h⟩
theorem zgs_nil : ZPGs TB X [] zgNil := ⟨pgs_nil.conv fun v σ H Q ⟨L, S, A, w, Kc, s, l, r, h0, hQ⟩ => by
  obtain ⟨e, h⟩ := zgNil_ex h0
  subst e
  cases r
  exact ⟨rfl, hQ _ _ (.here s l h)⟩⟩
theorem zgs_cons {es : List Expr} {t : ZTG} {u : ZTGs} (h1 : ZPG TB X e t) (h2 : ZPGs TB X es u)
    (hs : (assignEach (e :: es) X.env).map (·.2) = assign e X.env :: (assignEach es X.env).map (·.2) := by rfl) : ZPGs TB X (e :: es) (zgCons t u) := ⟨(pgs_cons h1.pg h2.pg hs).conv fun v σ H Q ⟨L, S, A, w, Kc, s, l, r, h0, hQ⟩ => by
  obtain ⟨w1, wr, e, h⟩ := zgCons_ex h0
  subst e
  cases r with
  | cons r1 r2 =>
    exact ⟨_, _, rfl, L, S, A, w1, _, s, l, r1, h, fun σ' H' ⟨A1, S1, L1, ea, eh, s1, l1, q⟩ => ⟨L1, S1, A1, wr, _, s1, l1, r2.mono ea eh, q, fun _ _ z => hQ _ _ (z.on ea eh)⟩⟩⟩
/-- (a, b, ..) = a tuple of that length -/
def zgTup (n : Nat) (t : ZTGs) : ZTG := fun w L S K => onTup (fun ws => qAr ws.length n (t ws L S K)) w
theorem zgTup_ex {n : Nat} {t : ZTGs} {w : W} {L : Loc'} {S : Store} {K : Loc' → Store → Prop} (h : zgTup n t w L S K) : ∃ ws, w = .tup ws ∧ ws.length = n ∧ t ws L S K := by
  obtain ⟨ws, e, h⟩ := onTup_ex h
  exact ⟨ws, e, qAr_ex h⟩
theorem zg_tup {es : List Expr} {k : Nat} {t : ZTGs} {n : Nat} (hc : X.calm = true) (h : ZPGs TB X es t)
    (hn : (assignEach es X.env).length = n := by rfl) (hst : (assignEach es X.env).findIdx? (·.1) = none := by rfl) : ZPG TB X (.Tuple es k pos) (zgTup n t) :=
  ⟨(pg_tup hc h.pg hn hst).conv fun v σ H Q ⟨L, S, A, w, Kc, s, l, r, h0, hQ⟩ => by
    obtain ⟨ws, e, hl, h⟩ := zgTup_ex h0
    subst e
    cases r with
    | tup h1 r1 => exact ⟨_, _, rfl, h1.sq, by rw [← r1.length]; exact hl, L, S, A, ws, Kc, s, l, r1, h, hQ⟩⟩
/-- o[i] = v by values -/
abbrev ZSet := W → W → W → Store → (Store → Prop) → Prop
def zgSub (to ti : ZE) (t : ZSet) : ZTG := fun w L S K => to L S fun o S1 => ti L S1 fun i S2 => t o i w S2 fun S3 => K L S3
@[irreducible] def qSetL : ZSet := fun o i w S K => Bx (match o, i with
  | .ref n, .int k => ∃ xs j, S[n]? = some (.lst xs) ∧ ixN xs.length k = some j ∧ K (S.set n (.lst (xs.set j w)))
  | _, _ => False)
theorem zg_subL {o i : Expr} {to ti : ZE} (ho : ZPE TB X o to) (hi : ZPE TB X i ti)
    (ha : ∀ v, assign (.Subscript o i pos) X.env v = (do
      let ov ← holding [v] (eval o X.env)
      let iv ← holding [v, ov] (eval i X.env)
      standAt pos
      holding [v, ov, iv] (setItem ov iv v)
      release [v, ov, iv] []) := by intro _; rfl) : ZPG TB X (.Subscript o i pos) (zgSub to ti qSetL) :=
  ⟨(pg_sub ho.pe hi.pe set_list ha).conv fun v σ H Q ⟨L, S, A, w, Kc, s, l, r, h, hQ⟩ => ⟨L, S, A, _, s, l, h, fun v1 H1 ⟨A1, S1, w1, ea1, eh1, s1, r1, h1⟩ =>
    ⟨L, S1, A1, _, s1, l.mono ea1 eh1, h1, fun v2 H2 ⟨A2, S2, w2, ea2, eh2, s2, r2, h2⟩ => by
      replace h2 : qSetL w1 w2 w S2 fun S3 => Kc L S3 := h2
      unfold qSetL at h2
      replace h2 := h2.ok
      split at h2
      · obtain ⟨xs, j, e1, e2, k⟩ := h2
        cases r1 with
        | ref ha1 =>
          cases r2
          obtain ⟨vs, f, q⟩ := s2.lst (ea2 _ _ ha1) e1
          refine ⟨_, _, _, j, rfl, rfl, f, by rw [← q.length]; exact e2, hQ _ _ ?_⟩
          have rr := r.mono (ea1.trans ea2) (eh1.trans eh2)
          obtain ⟨s3, eh3⟩ := s2.write (o' := .lst (xs.set j w)) (u := .lst (vs.set j v)) (ea2 _ _ ha1) e1 rfl rfl fun eh => .lst' upd_same ((Reps.set rr j q).mono (.refl _) eh)
          exact ⟨A2, _, L, ea1.trans ea2, (eh1.trans eh2).trans eh3, s3, l.mono (ea1.trans ea2) ((eh1.trans eh2).trans eh3), k⟩
      · exact h2.elim⟩⟩⟩
def zAsg (te : ZE) (g : ZTG) : ZS := fun D L S => te L S fun w S1 => g w L S1 D.nx
theorem z_asg {tg : Expr} {g : ZTG} (he : ZPE TB X e te) (hg : ZPG TB X tg g) (hs : swapsWithSole [tg] e pos.line X.env = pure false := by rfl) (hw : swappedStores [tg] e X.env = pure none := by rfl)
    (h1 : (assignEach [tg] X.env).map (·.2) = [assign tg X.env] := by rfl) : ZPS TB X (.Assign [tg] e pos) (zAsg te g) :=
  ⟨(ps_asg he.pe hg.pg hs hw h1).conv fun D σ H ⟨L, S, A, ZD, s, l, h, k1, _⟩ => ⟨L, S, A, _, s, l, h, fun v H' ⟨A1, S1, w, ea, eh, s1, r, q⟩ => ⟨L, S1, A1, w, _, s1, l.mono ea eh, r, q, fun _ _ z => k1 _ _ (z.on ea eh)⟩⟩⟩
theorem z_set {i : Nat} {x : Str} {pos' : Pos} (hN : X.N.Nodup) (hi : X.N[i]? = some x) (hx : Loc X.env.scope x) (he : ZPE TB X e te) (hs : swapsWith e (some (.Name x pos')) pos.line X.env = pure false := by rfl) (hf : X.fn x = true ∨ X.env.scope.names.lookup x = some .local := by first | exact .inl rfl | exact .inr rfl | assumption) :
    ZPS TB X (.Assign [.Name x pos'] e pos) (zAsg te (zgName i)) :=
  ⟨(ps_set hN hi hx he.pe hs hf).conv fun D σ H ⟨L, S, A, ZD, s, l, h, k1, _⟩ => ⟨L, S, A, _, s, l, h, fun v H' ⟨A1, S1, w, ea, eh, s1, r, q⟩ => k1 _ _ ⟨A1, S1, _, ea, eh, s1, (l.mono ea eh).set r i, qLet_iff.mp q⟩⟩⟩
def zPar (i j : Nat) (ta : ZA) : ZS := fun D L S => ta L S fun ws S1 => match ws with
  | [v, w] => qLet i (some v) L fun L1 => qLet j (some w) L1 fun L2 => D.nx L2 S1
  | _ => False
theorem z_par {i j : Nat} {x y : Str} {a b : Expr} {ta : ZA} {px py pt : Pos} {kt k2 pt2} (hc : X.calm = true) (hN : X.N.Nodup) (hi : X.N[i]? = some x) (hj : X.N[j]? = some y) (hij : i ≠ j)
    (hx : X.env.scope.names.lookup x = some .local) (hy : X.env.scope.names.lookup y = some .local) (ha : ZPA TB X [a, b] ta)
    (hw : swappedStores [.Tuple [.Name x px, .Name y py] kt pt] (.Tuple [a, b] k2 pt2) X.env = pure (some [x, y]))
    (hs : swapsWithSole [.Tuple [.Name x px, .Name y py] kt pt] (.Tuple [a, b] k2 pt2) pos.line X.env = pure false := by rfl) :
    ZPS TB X (.Assign [.Tuple [.Name x px, .Name y py] kt pt] (.Tuple [a, b] k2 pt2) pos) (zPar i j ta) :=
  ⟨(ps_par hc hN hi hj hij hx hy ha.pa hw hs).conv fun D σ H ⟨L, S, A, ZD, s, l, h, k1, _⟩ => ⟨L, S, A, _, s, l, h, fun vs H' ⟨A1, S1, ws, ea, eh, s1, r, q⟩ => by
    dsimp only at q
    split at q
    case h_2 => exact q.elim
    cases r with
    | cons r1 r =>
      cases r with
      | cons r2 r =>
        cases r
        exact ⟨_, _, rfl, k1 _ _ ⟨A1, S1, _, ea, eh, s1, ((l.mono ea eh).set r1 i).set r2 j, qLet_iff.mp (qLet_iff.mp q)⟩⟩⟩⟩
def zPar3 (i j k : Nat) (ta : ZA) : ZS := fun D L S => ta L S fun ws S1 => match ws with
  | [u, v, w] => qLet i (some u) L fun L1 => qLet j (some v) L1 fun L2 => qLet k (some w) L2 fun L3 => D.nx L3 S1
  | _ => False
theorem z_par3 {i j l : Nat} {x y z : Str} {a b c : Expr} {ta : ZA} {px py pz pt pos : Pos} {kt k2 pt2} (hc : X.calm = true) (hN : X.N.Nodup) (hi : X.N[i]? = some x) (hj : X.N[j]? = some y) (hl : X.N[l]? = some z) (hij : i ≠ j) (hil : i ≠ l) (hjl : j ≠ l)
    (hx : X.env.scope.names.lookup x = some .local) (hy : X.env.scope.names.lookup y = some .local) (hz : X.env.scope.names.lookup z = some .local) (ha : ZPA TB X [a, b, c] ta)
    (hw : swappedStores [.Tuple [.Name x px, .Name y py, .Name z pz] kt pt] (.Tuple [a, b, c] k2 pt2) X.env = pure (some [x, y, z]))
    (hs : swapsWithSole [.Tuple [.Name x px, .Name y py, .Name z pz] kt pt] (.Tuple [a, b, c] k2 pt2) pos.line X.env = pure false := by rfl) :
    ZPS TB X (.Assign [.Tuple [.Name x px, .Name y py, .Name z pz] kt pt] (.Tuple [a, b, c] k2 pt2) pos) (zPar3 i j l ta) :=
  ⟨(ps_par3 hc hN hi hj hl hij hil hjl hx hy hz ha.pa hw hs).conv fun D σ H ⟨L, S, A, ZD, s, l, h, k1, _⟩ => ⟨L, S, A, _, s, l, h, fun vs H' ⟨A1, S1, ws, ea, eh, s1, r, q⟩ => by
    dsimp only at q
    split at q
    case h_2 => exact q.elim
    cases r with
    | cons r1 r =>
      cases r with
      | cons r2 r =>
        cases r with
        | cons r3 r =>
          cases r
          exact ⟨_, _, _, rfl, k1 _ _ ⟨A1, S1, _, ea, eh, s1, (((l.mono ea eh).set r1 i).set r2 j).set r3 _, qLet_iff.mp (qLet_iff.mp (qLet_iff.mp q))⟩⟩⟩⟩
/-- x op= e -/
def lowP (K : PySem.W.Frag) (TB : List Addr) (r : Z2') : TIp := fun x y H Q => low2 K TB r x y H Q
structure ZIP (TB : List Addr) (X : Cx) (op : Operator) (r : Z2') : Prop where
  ok : PIp X op (lowP X.K TB r)
def zAug (i : Nat) (te : ZE) (r : Z2') : ZS := fun D L S => onV L[i]? fun x => te L S fun y S1 => r x y S1 fun z S2 => qLet i (some z) L fun L' => D.nx L' S2
theorem z_aug {i : Nat} {x : Str} {op : Operator} {r : Z2'} {pos' : Pos} (hN : X.N.Nodup) (hi : X.N[i]? = some x) (hx : Loc X.env.scope x) (he : ZPE TB X e te) (ho : ZIP TB X op r) (hf : X.fn x = true ∨ X.env.scope.names.lookup x = some .local := by first | exact .inl rfl | exact .inr rfl | assumption) :
    ZPS TB X (.AugAssign (.Name x pos') op e pos) (zAug i te r) :=
  ⟨(ps_aug hN hi hx he.pe ho.ok hf).conv fun D σ H ⟨L, S, A, ZD, s, l, h0, k1, _⟩ => by
    obtain ⟨w0, e0, h⟩ := onV_ex h0
    obtain ⟨v0, f0, r0⟩ := l.2 i w0 e0
    refine ⟨v0, f0, L, S, A, _, s, l, h, fun v H' ⟨A1, S1, w, ea, eh, s1, r1, q⟩ => ?_⟩
    exact ⟨A1, S1, w0, w, _, s1, r0.mono ea eh, r1, q, fun v2 H2 ⟨A2, S2, w2, ea2, eh2, s2, r2, q2⟩ => k1 _ _ ⟨A2, S2, _, ea.trans ea2, eh.trans eh2, s2, ((l.mono ea eh).mono ea2 eh2).set r2 i, qLet_iff.mp q2⟩⟩⟩
theorem zip_of {op : Operator} {f : Value → Value → Sem Value} {r : R2} (h : OpR X (inplaceOp op) r) : PIp X op r := h
/-- += on ints, texts; -= *= on ints -/
def qIAdd : Z2' := fun x y S K => match x, y with
  | .int i, .int j => K (.int (i + j)) S
  | .str a, .str b => a.length + b.length ≤ sizeLine ∧ K (.str (a ++ b)) S
  | _, _ => False
theorem zip_add : ZIP TB X .Add qIAdd := by
  refine ⟨fun pins s σ H x y v u Q I rx ry h => ?_⟩
  obtain ⟨A, S, wx, wy, Kc, sk, r1, r2, h, hQ⟩ := h
  cases r1 with
  | int i =>
    cases r2 with
    | int j => exact iop_add pins s σ H _ _ v u Q I rx ry ⟨i, j, rfl, rfl, hQ _ _ (.here sk (.int _) h)⟩
    | _ => exact h.elim
  | str i =>
    cases r2 with
    | str j => exact iop_add_str pins s σ H _ _ v u Q I rx ry ⟨i, j, rfl, rfl, h.1, hQ _ _ (.here sk (.str _) h.2)⟩
    | _ => exact h.elim
  | _ => exact h.elim
theorem zip_sub : ZIP TB X .Sub qSub := by
  refine ⟨fun pins s σ H x y v u Q I rx ry h => ?_⟩
  obtain ⟨A, S, wx, wy, Kc, sk, r1, r2, h, hQ⟩ := h
  cases r1 with
  | int i =>
    cases r2 with
    | int j => exact iop_sub pins s σ H _ _ v u Q I rx ry ⟨i, j, rfl, rfl, hQ _ _ (.here sk (.int _) h)⟩
    | _ => exact h.elim
  | _ => exact h.elim
end
end Z

set_option maxHeartbeats 2000000
/-! Z6: what is walked; for, list comprehensions, while. -/
namespace Z
open PySem PySem.Spec PyProof.Rows L2

/-- what is walked: its items, and what must stand of the store at each turn -/
structure ZIt where
  its : List W
  G : Store → Prop
abbrev ZTI := Loc' → Store → (ZIt → Store → Prop) → Prop
structure Wk (K : PySem.W.Frag) (TB : List Addr) (A : List Addr) (H : Hp) (z : ZIt) (J : It) : Prop where
  go : ∀ i A' S' H', i < z.its.length → AExt A A' → HExt H H' → SOk K TB A' S' H' → z.G S' → J.go i H'
  stop : ∀ A' S' H', AExt A A' → HExt H H' → SOk K TB A' S' H' → z.G S' → J.stop z.its.length H'
  yld : ∀ i A' S' H' x H'', i < z.its.length → AExt A A' → HExt H H' → SOk K TB A' S' H' → z.G S' → J.yld i H' x H'' → HExt H' H'' ∧ SOk K TB A' S' H'' ∧ ∃ w, z.its[i]? = some w ∧ Rep K A' H'' w x
theorem Wk.mono {K : PySem.W.Frag} {TB A A' : List Addr} {H H' : Hp} {z : ZIt} {J : It} (ea : AExt A A') (eh : HExt H H') (w : Wk K TB A H z J) : Wk K TB A' H' z J :=
  ⟨fun i A2 S2 H2 hi x y => w.go i A2 S2 H2 hi (ea.trans x) (eh.trans y), fun A2 S2 H2 x y => w.stop A2 S2 H2 (ea.trans x) (eh.trans y), fun i A2 S2 H2 v H3 hi x y => w.yld i A2 S2 H2 v H3 hi (ea.trans x) (eh.trans y)⟩
def lowI (K : PySem.W.Frag) (TB : List Addr) (t : ZTI) : TI := fun σ H R => ∃ L S A Kc, SOk K TB A S H ∧ LOk K A H L σ ∧ t L S Kc ∧
  ∀ z S' A' H' J, AExt A A' → HExt H H' → SOk K TB A' S' H' → Wk K TB A' H' z J → Kc z S' → R J H'
structure ZPI (TB : List Addr) (X : Cx) (tg e : Expr) (t : ZTI) : Prop where
  pi : PI X tg e (lowI X.K TB t)
theorem _root_.L2.PI.conv {X : Cx} {tg e : Expr} {T T' : TI} (h : PI X tg e T) (c : ∀ σ H R, T' σ H R → T σ H R) : PI X tg e T' := ⟨fun pins s σ H R I q => h.run pins s σ H R I (c σ H R q)⟩

section
variable {X : Cx} {TB : List Addr} {tg e l a b : Expr} {te : ZE} {ts : ZA} {pos p : Pos}
theorem wk_tup {K : PySem.W.Frag} {A : List Addr} {H : Hp} {xs : List W} {vs : List V} {a : Addr} (h : TupAt K H a vs) (r : Reps K A H xs vs) : Wk K TB A H ⟨xs, fun _ => True⟩ (Itt K a) := by
  refine ⟨fun i A' S' H' hi ea eh s _ => ?_, fun A' S' H' ea eh s _ => ⟨vs, (h.mono eh).sq, Nat.le_of_eq r.length.symm⟩, fun i A' S' H' x H'' hi ea eh s _ y => ?_⟩
  · have hi' : i < vs.length := by rw [← r.length]; exact hi
    exact ⟨vs, vs[i], (h.mono eh).sq, List.getElem?_eq_getElem hi'⟩
  · obtain ⟨rfl, y⟩ := y
    have e1 := y vs (h.mono eh).sq
    obtain ⟨w, e2, e3⟩ := r.get' e1
    exact ⟨.refl _, s, w, e2, e3.mono ea eh⟩
theorem wk_list {K : PySem.W.Frag} {A : List Addr} {H : Hp} {xs : List W} {a : Addr} {n : Nat} (ha : A[n]? = some a) : Wk K TB A H ⟨xs, fun S' => IsLst S' n xs⟩ (Itl K a) := by
  refine ⟨fun i A' S' H' hi ea eh s g => ?_, fun A' S' H' ea eh s g => ?_, fun i A' S' H' x H'' hi ea eh s g y => ?_⟩
  · obtain ⟨vs, q, r⟩ := s.seq (ea _ _ ha) g
    have hi' : i < vs.length := by rw [← r.length]; exact hi
    exact ⟨vs, vs[i], q, List.getElem?_eq_getElem hi'⟩
  · obtain ⟨vs, q, r⟩ := s.seq (ea _ _ ha) g
    exact ⟨vs, q, Nat.le_of_eq r.length.symm⟩
  · obtain ⟨rfl, y⟩ := y
    obtain ⟨vs, q, r⟩ := s.seq (ea _ _ ha) g
    have e1 := y vs q
    obtain ⟨w, e2, e3⟩ := r.get' e1
    exact ⟨.refl _, s, w, e2, e3⟩
/-- a list or a tuple walked -/
@[irreducible] def qSeqI (K : ZIt → Store → Prop) : WK := fun x S1 => Bx ((∃ xs, x = .tup xs ∧ K ⟨xs, fun _ => True⟩ S1) ∨ ∃ n xs, x = .ref n ∧ IsLst S1 n xs ∧ K ⟨xs, fun S' => IsLst S' n xs⟩ S1)
def zSeqI (te : ZE) : ZTI := fun L S K => te L S (qSeqI K)
theorem zi_seq (hl : ZPE TB X l te) : ZPI TB X tg l (zSeqI te) := by
  refine ⟨⟨fun pins s σ H R I ⟨L, S, A, Kc, sk, lk, h, hR⟩ => ?_⟩⟩
  refine thn (hl.pe.run pins s σ H _ I ⟨L, S, A, _, sk, lk, h, fun v H' q => q⟩) fun v s1 ⟨x, H1, I1, r1, A1, S1, w1, ea, eh, s1', rr, q⟩ => ?_
  unfold qSeqI at q
  replace q := q.ok
  rcases q with ⟨xs, rfl, k⟩ | ⟨n, xs, rfl, hl, k⟩
  · cases rr with
    | tup h1 q1 =>
      cases r1
      obtain ⟨its, rv, p, hz⟩ := I1.tuple h1.sq
      refine wpAny_pyIter_tuple (show s1.heap.IsTuple _ its.toArray from p) ?_
      refine ⟨s1.heap.objs.size, [s1.heap.objs.size], _, _, H1, rfl, I1.kept (t' := s1.toks) fun b o e => Heap.get?_push_of_some _ e, turn_tuple _ _, ⟨_, Heap.get?_push_size _ rfl, rfl, rfl⟩, fun b hb => ?_, hR _ S1 A1 H1 _ ea eh s1' (wk_tup h1 q1) k⟩
      have e : b = s1.heap.objs.size := by simpa using hb
      subst e
      exact I1.fpOk (Nat.le_refl _) (I1.hok.fresh (Nat.le_refl _))
  · cases rr with
    | ref h1 =>
      cases r1
      obtain ⟨vs, hq, q1⟩ := s1'.seq h1 hl
      obtain ⟨its, rv, p, hz⟩ := I1.list hq
      refine wpAny_pyIter_list p.isList ?_
      refine ⟨s1.heap.objs.size, [s1.heap.objs.size], _, _, H1, rfl, I1.kept (t' := s1.toks) fun b o e => Heap.get?_push_of_some _ e, turn_list _ _, ⟨_, Heap.get?_push_size _ rfl, rfl, rfl⟩, fun b hb => ?_, hR _ S1 A1 H1 _ ea eh s1' (wk_list h1) k⟩
      have e : b = s1.heap.objs.size := by simpa using hb
      subst e
      exact I1.fpOk (Nat.le_refl _) (I1.hok.fresh (Nat.le_refl _))
/-- the ints lo, lo + 1, .. -/
def rangeW (lo : Int) (n : Nat) : List W := (List.range n).map fun i => .int (lo + (i : Nat))
theorem rangeW_length (lo : Int) (n : Nat) : (rangeW lo n).length = n := by simp [rangeW]
theorem rangeW_get {lo : Int} {n i : Nat} (h : i < n) : (rangeW lo n)[i]? = some (.int (lo + (i : Nat))) := by simp [rangeW, h]
theorem wk_range {K : PySem.W.Frag} {A : List Addr} {H : Hp} {lo : Int} {n : Nat} : Wk K TB A H ⟨rangeW lo n, fun _ => True⟩ (Itr lo n) := by
  refine ⟨fun i A' S' H' hi ea eh s _ => ?_, fun A' S' H' ea eh s _ => ?_, fun i A' S' H' x H'' hi ea eh s _ y => ?_⟩
  · exact (rangeW_length lo n) ▸ hi
  · exact Nat.le_of_eq (rangeW_length lo n).symm
  · obtain ⟨rfl, rfl⟩ := y
    exact ⟨.refl _, s, _, rangeW_get ((rangeW_length lo n) ▸ hi), .int _⟩
def qRng (K : ZIt → Store → Prop) : List W → Store → Prop := fun ws S1 => match ws with
  | [.int j] => (-(2 ^ 62) ≤ j ∧ j < 2 ^ 62) ∧ K ⟨rangeW 0 j.toNat, fun _ => True⟩ S1
  | _ => False
theorem qRng_ex {K : ZIt → Store → Prop} {ws : List W} {S1 : Store} (h : qRng K ws S1) : ∃ j, ws = [.int j] ∧ -(2 ^ 62) ≤ j ∧ j < 2 ^ 62 ∧ K ⟨rangeW 0 j.toNat, fun _ => True⟩ S1 := by
  unfold qRng at h
  split at h
  · exact ⟨_, rfl, h.1.1, h.1.2, h.2⟩
  · exact h.elim
def zRngI (ts : ZA) : ZTI := fun L S K => ts L S (qRng K)
def qRng2 (K : ZIt → Store → Prop) : List W → Store → Prop := fun ws S1 => match ws with
  | [.int i, .int j] => (-(2 ^ 62) ≤ i ∧ i < 2 ^ 62 ∧ -(2 ^ 62) ≤ j ∧ j < 2 ^ 62) ∧ K ⟨rangeW i (j - i).toNat, fun _ => True⟩ S1
  | _ => False
theorem qRng2_ex {K : ZIt → Store → Prop} {ws : List W} {S1 : Store} (h : qRng2 K ws S1) : ∃ i j, ws = [.int i, .int j] ∧ (-(2 ^ 62) ≤ i ∧ i < 2 ^ 62 ∧ -(2 ^ 62) ≤ j ∧ j < 2 ^ 62) ∧ K ⟨rangeW i (j - i).toNat, fun _ => True⟩ S1 := by
  unfold qRng2 at h
  split at h
  · exact ⟨_, _, rfl, h⟩
  · exact h.elim
def zRng2I (ts : ZA) : ZTI := fun L S K => ts L S (qRng2 K)
theorem zi_range1 (hg : Gl X "range") (hm : X.mg "range" = none) (ha : ZPA TB X [a] ts) (hs : starEach [a] X.env = [(false, eval a X.env)] := by rfl) : ZPI TB X tg (.Call (.Name "range" p) [a] [] pos) (zRngI ts) :=
  ⟨(pi_range1 hg hm ha.pa hs).conv fun σ H R ⟨L, S, A, Kc, sk, lk, h, hR⟩ => ⟨L, S, A, _, sk, lk, h, fun vs H1 ⟨A1, S1, ws, ea, eh, s1, r, h0⟩ => by
    obtain ⟨j, e, b1, b2, k⟩ := qRng_ex h0
    subst e
    cases r with
    | cons r1 r =>
      cases r1
      cases r
      exact ⟨j, rfl, b1, b2, hR _ S1 A1 H1 _ ea eh s1 wk_range k⟩⟩⟩
theorem zi_range2 (hg : Gl X "range") (hm : X.mg "range" = none) (ha : ZPA TB X [a, b] ts) (hs : starEach [a, b] X.env = [(false, eval a X.env), (false, eval b X.env)] := by rfl) (hs2 : starEach [b] X.env = [(false, eval b X.env)] := by rfl) :
    ZPI TB X tg (.Call (.Name "range" p) [a, b] [] pos) (zRng2I ts) :=
  ⟨(pi_range2 hg hm ha.pa hs hs2).conv fun σ H R ⟨L, S, A, Kc, sk, lk, h, hR⟩ => ⟨L, S, A, _, sk, lk, h, fun vs H1 ⟨A1, S1, ws, ea, eh, s1, r, h0⟩ => by
    obtain ⟨i, j, e, b, k⟩ := qRng2_ex h0
    subst e
    cases r with
    | cons r1 r =>
      cases r with
      | cons r2 r =>
        cases r1
        cases r2
        cases r
        exact ⟨i, j, rfl, b, hR _ S1 A1 H1 _ ea eh s1 wk_range k⟩⟩⟩

/-! ### for -/
variable {tb : ZS} {g : ZTG} {ti : ZTI} {body : List Stmt} {iter : Expr}
@[irreducible] def FlEnd (z : ZIt) (g : ZTG) (tb : ZS) (D : ZEnds) (L : Loc') (S1 : Store) : Prop := Bx (∃ P : Nat → Loc' → Store → Prop, P 0 L S1 ∧
  (∀ i w L S, z.its[i]? = some w → P i L S → z.G S ∧ g w L S fun L' S' => tb { D with nx := P (i + 1), ct := P (i + 1), bk := D.nx } L' S') ∧ ∀ L S, P z.its.length L S → z.G S ∧ D.nx L S)
def zFor (ti : ZTI) (g : ZTG) (tb : ZS) : ZS := fun D L S => ti L S fun z S1 => FlEnd z g tb D L S1
theorem z_for (hp : PassesOwn (model X.prog X.w) X.A X.env X.xe) (hc : X.calm = true) (hi : ZPI TB X tg iter ti) (hg : ZPG TB X tg g) (hb : ZPSs TB X body tb)
    (hs : ∀ x, foldedSetIterable iter X.env x = pure x := by intro _; rfl) : ZPS TB X (.For tg iter body [] pos) (zFor ti g tb) := by
  refine ⟨(ps_for hp hc hi.pi hg.pg hb.ps hs).conv fun D σ H ⟨L, S, A, ZD, sk, lk, h, k1, k2, k3, k4⟩ => ?_⟩
  refine ⟨L, S, A, _, sk, lk, h, fun z S1 A1 H1 J ea eh s1 wk h0 => ?_⟩
  unfold FlEnd at h0
  replace h0 := h0.ok
  obtain ⟨P, p0, ps, pd⟩ := h0
  refine ⟨fun i m σ' H' => m = z.its.length - i ∧ i ≤ z.its.length ∧ ∃ A' S' L', AExt A1 A' ∧ HExt H1 H' ∧ SOk X.K TB A' S' H' ∧ LOk X.K A' H' L' σ' ∧ P i L' S', ⟨z.its.length, by simp, Nat.zero_le _, A1, S1, L, .refl _, .refl _, s1, lk.mono ea eh, p0⟩, ?_⟩
  rintro i m σ2 H2 ⟨rfl, hi2, A2, S2, L2, ea2, eh2, s2, l2, p2⟩
  by_cases hlt : i < z.its.length
  · have hw := List.getElem?_eq_getElem hlt
    obtain ⟨g2, q2⟩ := ps i _ L2 S2 hw p2
    refine .inr ⟨wk.go i A2 S2 H2 hlt ea2 eh2 s2 g2, fun σ' H' => ∃ A' S' L', AExt A1 A' ∧ HExt H1 H' ∧ SOk X.K TB A' S' H' ∧ LOk X.K A' H' L' σ' ∧ P (i + 1) L' S', fun σ' H' n => ⟨z.its.length - (i + 1), by omega, rfl, hlt, n⟩, fun x H3 y => ?_⟩
    obtain ⟨eh3, s3, w, hw', rw'⟩ := wk.yld i A2 S2 H2 x H3 hlt ea2 eh2 s2 g2 y
    rw [hw] at hw'
    cases hw'
    refine ⟨L2, S2, A2, _, _, s3, l2.mono (.refl _) eh3, rw', q2, fun σ4 H4 ⟨A4, S4, L4, ea4, eh4, s4, l4, q4⟩ => ?_⟩
    have EA := (ea2.trans ea4)
    have EH := (eh2.trans eh3).trans eh4
    refine lowS_of s4 l4 q4 (fun σ5 H5 ⟨A5, S5, L5, ea5, eh5, s5, l5, q5⟩ => ⟨A5, S5, L5, EA.trans ea5, EH.trans eh5, s5, l5, q5⟩) (fun v H5 q5 => k2 _ _ (q5.on (ea.trans EA) (eh.trans EH)))
      (fun σ5 H5 q5 => k1 _ _ (q5.on (ea.trans EA) (eh.trans EH))) (fun σ5 H5 ⟨A5, S5, L5, ea5, eh5, s5, l5, q5⟩ => ⟨A5, S5, L5, EA.trans ea5, EH.trans eh5, s5, l5, q5⟩)
  · have e : i = z.its.length := by omega
    subst e
    obtain ⟨g2, q2⟩ := pd L2 S2 p2
    exact .inl ⟨wk.stop A2 S2 H2 ea2 eh2 s2 g2, k1 _ _ ⟨A2, S2, L2, ea.trans ea2, eh.trans eh2, s2, l2, q2⟩⟩

/-! ### while -/
@[irreducible] def WhEnd (c : ZT) (tb : ZS) (D : ZEnds) (L : Loc') (S : Store) : Prop := Bx (∃ (P : Nat → Loc' → Store → Prop), (∃ m, P m L S) ∧
  ∀ m L S, P m L S → c L S fun b S1 => qIf b (tb { D with nx := fun L' S' => ∃ m', m' < m ∧ P m' L' S', ct := fun L' S' => ∃ m', m' < m ∧ P m' L' S', bk := D.nx } L S1) (D.nx L S1))
def zWhile (c : ZT) (tb : ZS) : ZS := fun D L S => WhEnd c tb D L S
theorem z_while {c : Expr} {tt : ZT} (hp : PassesOwn (model X.prog X.w) X.A X.env X.xe) (hc : ZPT TB X c tt) (hb : ZPSs TB X body tb) : ZPS TB X (.While c body [] pos) (zWhile tt tb) := by
  refine ⟨(ps_while hp hc.pt hb.ps).conv fun D σ H ⟨L, S, A, ZD, sk, lk, h0, k1, k2, k3, k4⟩ => ?_⟩
  replace h0 : WhEnd tt tb ZD L S := h0
  unfold WhEnd at h0
  replace h0 := h0.ok
  obtain ⟨P, ⟨m0, p0⟩, ps⟩ := h0
  let W' : Nat → L2.St → Hp → Prop := fun m σ' H' => ∃ A' S' L', AExt A A' ∧ HExt H H' ∧ SOk X.K TB A' S' H' ∧ LOk X.K A' H' L' σ' ∧ P m L' S'
  refine ⟨W', ⟨m0, A, S, L, .refl _, .refl _, sk, lk, p0⟩, ?_⟩
  rintro m σ2 H2 ⟨A2, S2, L2, ea2, eh2, s2, l2, p2⟩
  refine ⟨L2, S2, A2, _, s2, l2, ps m L2 S2 p2, fun b H3 ⟨A3, S3, ea3, eh3, s3, q3⟩ => ?_⟩
  have EA := ea2.trans ea3
  have EH := eh2.trans eh3
  cases b with
  | true =>
    dsimp only at q3 ⊢
    rw [qIf_t] at q3
    rw [if_pos rfl]
    refine ⟨fun σ' H' => ∃ m', m' < m ∧ W' m' σ' H', fun σ' H' n => n, ?_⟩
    refine lowS_of s3 (l2.mono ea3 eh3) q3 (fun σ5 H5 ⟨A5, S5, L5, ea5, eh5, s5, l5, m', hm, q5⟩ => ⟨m', hm, A5, S5, L5, EA.trans ea5, EH.trans eh5, s5, l5, q5⟩) (fun v H5 q5 => k2 _ _ (q5.on EA EH))
      (fun σ5 H5 q5 => k1 _ _ (q5.on EA EH)) (fun σ5 H5 ⟨A5, S5, L5, ea5, eh5, s5, l5, m', hm, q5⟩ => ⟨m', hm, A5, S5, L5, EA.trans ea5, EH.trans eh5, s5, l5, q5⟩)
  | false =>
    dsimp only at q3 ⊢
    rw [qIf_f] at q3
    rw [if_neg Bool.false_ne_true]
    exact k1 _ _ ⟨A3, S3, L2, EA, EH, s3, l2.mono ea3 eh3, q3⟩

/-! ### list comprehensions, one clause -/
/-- the slots of the block's own names forgotten -/
def wipeL (L : Loc') : List Nat → Loc'
  | [] => L
  | v :: vs => (wipeL L vs).set v none
theorem LOk.forget {K : PySem.W.Frag} {A : List Addr} {H : Hp} {L : Loc'} {σ : L2.St} (h : LOk K A H L σ) (i : Nat) : LOk K A H (L.set i none) (σ.set i none) := by
  refine ⟨by simp [h.1], fun j x e => ?_⟩
  by_cases hj : i = j
  · subst hj
    by_cases hi : i < L.length
    · rw [List.getElem?_set_self hi] at e; cases e
    · rw [List.getElem?_eq_none (by simpa using hi)] at e; cases e
  · rw [List.getElem?_set_ne hj] at e
    obtain ⟨v', h1, h2⟩ := h.2 j x e
    exact ⟨v', by rw [List.getElem?_set_ne hj]; exact h1, h2⟩
theorem LOk.wipe {K : PySem.W.Frag} {A : List Addr} {H : Hp} {L : Loc'} {σ : L2.St} (h : LOk K A H L σ) : ∀ vs : List Nat, LOk K A H (wipeL L vs) (L2.wipe σ vs)
  | [] => h
  | v :: vs => (LOk.wipe h vs).forget v
/-- a target whose names are the block's own -/
def lowGc (K : PySem.W.Frag) (TB : List Addr) (vs : List Nat) (t : ZTG) : TG := fun v σ H Q => ∃ L S A w Kc, SOk K TB A S H ∧ LOk K A H L σ ∧ Rep K A H w v ∧ t w L S Kc ∧ ∀ σ' H', AftS K TB A H Kc σ' H' → L2.wipe σ' vs = L2.wipe σ vs → Q σ' H'
def lowGcs (K : PySem.W.Frag) (TB : List Addr) (vs : List Nat) (t : ZTGs) : TGs := fun v σ H Q => ∃ L S A w Kc, SOk K TB A S H ∧ LOk K A H L σ ∧ Reps K A H w v ∧ t w L S Kc ∧ ∀ σ' H', AftS K TB A H Kc σ' H' → L2.wipe σ' vs = L2.wipe σ vs → Q σ' H'
structure ZPGc (TB : List Addr) (vs : List Nat) (X : Cx) (e : Expr) (t : ZTG) : Prop where
  pg : PG X e (lowGc X.K TB vs t)
structure ZPGcs (TB : List Addr) (vs : List Nat) (X : Cx) (e : List Expr) (t : ZTGs) : Prop where
  pg : PGs X e (lowGcs X.K TB vs t)
theorem wipe_set {σ : L2.St} {i : Nat} {v : Option V} : ∀ {vs : List Nat}, i ∈ vs → L2.wipe (σ.set i v) vs = L2.wipe σ vs
  | [], h => by cases h
  | j :: vs, h => by
    unfold L2.wipe
    rcases List.mem_cons.mp h with e | h
    · subst e
      have key : ∀ (vs : List Nat), (L2.wipe (σ.set i v) vs).set i none = (L2.wipe σ vs).set i none := by
        intro vs
        induction vs with
        | nil => unfold L2.wipe; rw [List.set_set]
        | cons k ks ih =>
          unfold L2.wipe
          by_cases hk : k = i
          · subst hk
            rw [List.set_set, List.set_set]
            exact ih
          · rw [List.set_comm _ _ hk, List.set_comm _ _ hk, ih]
      exact key vs
    · rw [wipe_set h]
theorem zgc_name {vs : List Nat} {i : Nat} {x : Str} (hN : X.N.Nodup) (hi : X.N[i]? = some x) (hx : Loc X.env.scope x) (hv : i ∈ vs) (hf : X.fn x = true ∨ X.env.scope.names.lookup x = some .local := by first | exact .inl rfl | exact .inr rfl | assumption) : ZPGc TB vs X (.Name x pos) (zgName i) :=
  ⟨(pg_name hN hi hx hf).conv fun v σ H Q ⟨L, S, A, w, Kc, s, l, r, h, hQ⟩ => hQ _ _ (.here s (l.set r i) (qLet_iff.mp h)) (wipe_set hv)⟩
theorem zgcs_nil {vs : List Nat} : ZPGcs TB vs X [] zgNil := ⟨pgs_nil.conv fun v σ H Q ⟨L, S, A, w, Kc, s, l, r, h0, hQ⟩ => by
  obtain ⟨e, h⟩ := zgNil_ex h0
  subst e
  cases r
  exact ⟨rfl, hQ _ _ (.here s l h) rfl⟩⟩
theorem zgcs_cons {vs : List Nat} {es : List Expr} {t : ZTG} {u : ZTGs} (h1 : ZPGc TB vs X e t) (h2 : ZPGcs TB vs X es u)
    (hs : (assignEach (e :: es) X.env).map (·.2) = assign e X.env :: (assignEach es X.env).map (·.2) := by rfl) : ZPGcs TB vs X (e :: es) (zgCons t u) := ⟨(pgs_cons h1.pg h2.pg hs).conv fun v σ H Q ⟨L, S, A, w, Kc, s, l, r, h0, hQ⟩ => by
  obtain ⟨w1, wr, e, h⟩ := zgCons_ex h0
  subst e
  cases r with
  | cons r1 r2 =>
    exact ⟨_, _, rfl, L, S, A, w1, _, s, l, r1, h, fun σ' H' ⟨A1, S1, L1, ea, eh, s1, l1, q⟩ e1 => ⟨L1, S1, A1, wr, _, s1, l1, r2.mono ea eh, q, fun _ _ z e2 => hQ _ _ (z.on ea eh) (e2.trans e1)⟩⟩⟩
theorem zgc_tup {vs : List Nat} {es : List Expr} {k : Nat} {t : ZTGs} {n : Nat} (hc : X.calm = true) (h : ZPGcs TB vs X es t)
    (hn : (assignEach es X.env).length = n := by rfl) (hst : (assignEach es X.env).findIdx? (·.1) = none := by rfl) : ZPGc TB vs X (.Tuple es k pos) (zgTup n t) :=
  ⟨(pg_tup hc h.pg hn hst).conv fun v σ H Q ⟨L, S, A, w, Kc, s, l, r, h0, hQ⟩ => by
    obtain ⟨ws, e, hl, h⟩ := zgTup_ex h0
    subst e
    cases r with
    | tup h1 r1 => exact ⟨_, _, rfl, h1.sq, by rw [← r1.length]; exact hl, L, S, A, ws, Kc, s, l, r1, h, hQ⟩⟩
structure ZPTs (TB : List Addr) (X : Cx) (ifs : List Expr) (t : ZT) : Prop where
  pt : PTs X ifs (lowT X.K TB t)
theorem zts_nil : ZPTs TB X [] (fun _ S K => K true S) := ⟨⟨fun pins s σ H Q I ⟨L, S, A, Kc, sk, lk, h, hQ⟩ => pts_nil.run pins s σ H Q I (hQ _ _ ⟨A, S, .refl _, .refl _, sk, h⟩)⟩⟩
theorem zts_one {c : Expr} {t : ZT} (h : ZPT TB X c t) : ZPTs TB X [c] t := ⟨pts_one h.pt⟩
@[irreducible] def qPush (n : Nat) (acc : List W) (y : W) (S5 : Store) (KS : List W → Store → Prop) : Prop := Bx (S5[n]? = some (.lst acc) ∧ acc.length < sizeLine ∧ KS (acc ++ [y]) (S5.set n (.lst (acc ++ [y]))))
@[irreducible] def LcEnd (z : ZIt) (g : ZTG) (tt : ZT) (te : ZE) (vs : List Nat) (L : Loc') (S1 : Store) (K : WK) : Prop := Bx (∃ P : Nat → List W → Store → Prop, P 0 [] (S1 ++ [.lst []]) ∧
  (∀ i acc w S2, z.its[i]? = some w → P i acc S2 → z.G S2 ∧ S2[S1.length]? = some (.lst acc) ∧ g w (wipeL L vs) S2 fun L' S3 => tt L' S3 fun b S4 =>
    qIf b (te L' S4 fun y S5 => qPush S1.length acc y S5 (P (i + 1))) (P (i + 1) acc S4)) ∧
  ∀ acc S2, P z.its.length acc S2 → z.G S2 ∧ K (.ref S1.length) S2)
def zLc (ti : ZTI) (g : ZTG) (tt : ZT) (te : ZE) (vs : List Nat) : ZE := fun L S K => ti L S fun z S1 => LcEnd z g tt te vs L S1 K
theorem lc_low {K : PySem.W.Frag} {tt : ZT} {te : ZE} {vs : List Nat} {σ : L2.St} {H : Hp} {Q : VK} (h : low K TB (zLc ti g tt te vs) σ H Q) : tLc (lowI K TB ti) (lowGc K TB vs g) (lowT K TB tt) (low K TB te) vs σ H Q := by
  obtain ⟨L, S, A, Kc, sk, lk, h, hQ⟩ := h
  refine ⟨L, S, A, _, sk, lk, h, fun z S1 A1 H1 J ea eh s1 wk h0 D hD => ?_⟩
  unfold LcEnd at h0
  replace h0 := h0.ok
  obtain ⟨P, p0, ps, pd⟩ := h0
  have eaD := AExt.snoc A1 D
  have ehD : HExt H1 (upd H1 D (.lst [])) := .new hD
  have sD : SOk K TB (A1 ++ [D]) (S1 ++ [.lst []]) (upd H1 D (.lst [])) := s1.new hD (.lst' upd_same .nil)
  have hDn : (A1 ++ [D])[S1.length]? = some D := by rw [← s1.len]; simp
  let W' : Nat → Hp → Prop := fun i H' => ∃ A' S' acc, AExt (A1 ++ [D]) A' ∧ HExt (upd H1 D (.lst [])) H' ∧ SOk K TB A' S' H' ∧ P i acc S'
  refine ⟨fun i m H' => m = z.its.length - i ∧ i ≤ z.its.length ∧ W' i H', ⟨z.its.length, by simp, Nat.zero_le _, _, _, [], .refl _, .refl _, sD, p0⟩, ?_⟩
  rintro i m H2 ⟨rfl, hi2, A2, S2, acc, ea2, eh2, s2, p2⟩
  have EA := eaD.trans ea2
  have EH := ehD.trans eh2
  by_cases hlt : i < z.its.length
  · have hw := List.getElem?_eq_getElem hlt
    obtain ⟨g2, hS2, q2⟩ := ps i acc _ S2 hw p2
    refine .inr ⟨wk.go i A2 S2 H2 hlt EA EH s2 g2, W' (i + 1), fun H' n => ⟨z.its.length - (i + 1), by omega, rfl, hlt, n⟩, fun x H3 y => ?_⟩
    obtain ⟨eh3, s3, w, hw', rw'⟩ := wk.yld i A2 S2 H2 x H3 hlt EA EH s2 g2 y
    rw [hw] at hw'
    cases hw'
    refine ⟨wipeL L vs, S2, A2, _, _, s3, ((lk.mono (ea.trans EA) ((eh.trans EH).trans eh3)).wipe vs), rw', q2, fun σ4 H4 ⟨A4, S4, L4, ea4, eh4, s4, l4, q4⟩ e4 => ⟨?_, ?_⟩⟩
    · have idem : ∀ (vs : List Nat) (σ : L2.St), L2.wipe (L2.wipe σ vs) vs = L2.wipe σ vs := by
        have key : ∀ (us vs : List Nat) (σ : L2.St), (∀ u ∈ us, u ∈ vs) → L2.wipe (L2.wipe σ us) vs = L2.wipe σ vs := by
          intro us
          induction us with
          | nil => intro vs σ _; rfl
          | cons u us ih =>
            intro vs σ hu
            show L2.wipe ((L2.wipe σ us).set u none) vs = _
            rw [wipe_set (hu u List.mem_cons_self)]
            exact ih vs σ fun x hx => hu x (List.mem_cons_of_mem _ hx)
        intro vs σ
        exact key vs vs σ fun _ h => h
      rw [e4, idem]
    · refine ⟨L4, S4, A4, _, s4, l4, q4, fun b H5 ⟨A5, S5, ea5, eh5, s5, q5⟩ => ?_⟩
      have EA5 := (ea2.trans ea4).trans ea5
      have EH5 := ((eh2.trans eh3).trans eh4).trans eh5
      cases b with
      | false =>
        dsimp only at q5 ⊢
        rw [qIf_f] at q5
        rw [if_neg Bool.false_ne_true]
        exact ⟨A5, S5, acc, EA5, EH5, s5, q5⟩
      | true =>
        dsimp only at q5 ⊢
        rw [qIf_t] at q5
        rw [if_pos rfl]
        refine ⟨L4, S5, A5, _, s5, l4.mono ea5 eh5, q5, fun v6 H6 ⟨A6, S6, w6, ea6, eh6, s6, r6, p7⟩ => ?_⟩
        unfold qPush at p7
        obtain ⟨hS6, hz, p6⟩ := p7.ok
        have hA6 := (EA5.trans ea6) _ _ hDn
        obtain ⟨us, f, q⟩ := s6.lst hA6 hS6
        refine ⟨us, f, by rw [← q.length]; exact hz, ?_⟩
        obtain ⟨s7, eh7⟩ := s6.write (o' := .lst (acc ++ [w6])) (u := .lst (us ++ [v6])) hA6 hS6 rfl rfl fun eh => .lst' upd_same ((q.append (.cons r6 .nil)).mono (.refl _) eh)
        exact ⟨A6, _, acc ++ [w6], EA5.trans ea6, (EH5.trans eh6).trans eh7, s7, p6⟩
  · have e : i = z.its.length := by omega
    subst e
    obtain ⟨g2, q2⟩ := pd acc S2 p2
    exact .inl ⟨wk.stop A2 S2 H2 EA EH s2 g2, hQ _ _ ⟨A2, S2, .ref S1.length, ea.trans EA, eh.trans EH, s2, .ref (ea2 _ _ hDn), q2⟩⟩
theorem z_lc {elt : Expr} {ifs : List Expr} {scope : Scope} {own : List (Str × Nat)} {tt : ZT} {te : ZE} (hc : X.calm = true) (hN : X.N.Nodup) (hi : ZPI TB X tg iter ti) (ok : BlkOk X.N X.env.scope scope own)
    (hg : ∀ (s : Shared) (H : Hp) (C : Addr) (cl : List (Str × Addr)) (fp : List Addr), ZPGc TB (own.map (·.2)) (X.blk s H scope (compEnvC scope cl C X.env) fp) tg g) (ht : ∀ (s : Shared) (H : Hp) (C : Addr) (cl : List (Str × Addr)) (fp : List Addr), ZPTs TB (X.blk s H scope (compEnvC scope cl C X.env) fp) ifs tt)
    (he : ∀ (s : Shared) (H : Hp) (C : Addr) (cl : List (Str × Addr)) (fp : List Addr), ZPE TB (X.blk s H scope (compEnvC scope cl C X.env) fp) elt te) (hs : ∀ x, foldedSetIterable iter X.env x = pure x := by intro _; rfl) :
    ZPE TB X (.ListComp elt [⟨tg, iter, ifs, 0⟩] scope pos) (zLc ti g tt te (own.map (·.2))) :=
  ⟨(pe_lc hc hN hi.pi ok (fun s H C cl fp => (hg s H C cl fp).pg) (fun s H C cl fp => (ht s H C cl fp).pt) (fun s H C cl fp => (he s H C cl fp).pe) hs).conv fun σ H Q h => lc_low h⟩
/-- name = [..] on one line, the name a local -/
theorem z_setLc {i : Nat} {y : Str} {py spos : Pos} {elt : Expr} {ifs : List Expr} {scope : Scope} {own : List (Str × Nat)} {tt : ZT} {te : ZE} (hc : X.calm = true) (hN : X.N.Nodup) (hy : X.N[i]? = some y) (hyl : X.env.scope.names.lookup y = some .local)
    (hsw : swapsWith (.ListComp elt [⟨tg, iter, ifs, 0⟩] scope pos) (some (.Name y py)) spos.line X.env = pure true) (hi : ZPI TB X tg iter ti) (ok : BlkOk X.N X.env.scope scope own)
    (hg : ∀ (s : Shared) (H : Hp) (C : Addr) (cl : List (Str × Addr)) (fp : List Addr), ZPGc TB (own.map (·.2)) (X.blk s H scope (compEnvC scope cl C X.env) fp) tg g) (ht : ∀ (s : Shared) (H : Hp) (C : Addr) (cl : List (Str × Addr)) (fp : List Addr), ZPTs TB (X.blk s H scope (compEnvC scope cl C X.env) fp) ifs tt)
    (he : ∀ (s : Shared) (H : Hp) (C : Addr) (cl : List (Str × Addr)) (fp : List Addr), ZPE TB (X.blk s H scope (compEnvC scope cl C X.env) fp) elt te) (hs : ∀ x, foldedSetIterable iter X.env x = pure x := by intro _; rfl) :
    ZPS TB X (.Assign [.Name y py] (.ListComp elt [⟨tg, iter, ifs, 0⟩] scope pos) spos) (zAsg (zLc ti g tt te (own.map (·.2))) (zgName i)) :=
  ⟨(ps_setLc hc hN hy hyl hsw hi.pi ok (fun s H C cl fp => (hg s H C cl fp).pg) (fun s H C cl fp => (ht s H C cl fp).pt) (fun s H C cl fp => (he s H C cl fp).pe) hs).conv fun D σ H ⟨L, S, A, ZD, sk, lk, h, k1, _⟩ =>
    lc_low ⟨L, S, A, _, sk, lk, h, fun v H' ⟨A1, S1, w, ea, eh, s1, r, q⟩ => k1 _ _ ⟨A1, S1, _, ea, eh, s1, (lk.mono ea eh).set r i, qLet_iff.mp q⟩⟩⟩
end
end Z

set_option maxHeartbeats 2000000
/-! Z7: a def by its body; the law's end. -/
namespace Z
open PySem PySem.Spec PyProof.Rows L2
def startL (N : Nat) (ws : List W) : Loc' := ws.map some ++ List.replicate (N - ws.length) none
theorem lok_start {K : PySem.W.Frag} {A : List Addr} {H : Hp} {ws : List W} {vs : List V} (N : List Str) (r : Reps K A H ws vs) : LOk K A H (startL N.length ws) (L2.start N vs) := by
  have hl := r.length
  refine ⟨by simp [startL, L2.start, hl], fun i w e => ?_⟩
  unfold startL at e
  by_cases hi : i < ws.length
  · rw [List.getElem?_append_left (by simpa using hi), List.getElem?_map] at e
    cases e1 : ws[i]? with
    | none => rw [e1] at e; cases e
    | some w' =>
      rw [e1] at e
      have e2 : w' = w := by simpa using e
      subst e2
      obtain ⟨v, h1, h2⟩ := r.get e1
      refine ⟨v, ?_, h2⟩
      unfold L2.start
      rw [List.getElem?_append_left (by simp; omega), List.getElem?_map, h1]
      rfl
  · rw [List.getElem?_append_right (by simpa using hi), List.getElem?_replicate] at e
    split at e <;> cases e
section
variable {P : Program} {w : World} {K : PySem.W.Frag} {mg : Str → Option Value} {base : Heap} {TB : List Addr}
/-- THE RULE for a def -/
theorem fn_z {x qual : Str} {st : Stmt} {f : Addr} {fd : FuncData} {N ps : List Str} {k : Nat} {sp : ZC} {t : ZS} (F : Fun K x qual st f fd) (S : FnScope N ps (defScope st))
    (hbody : ∀ (cdv : Value) (A : Around) (outer : List Env) (s : Shared) (H : Hp) (E : XK), Room k (A.deeper (envOfC qual (defScope st) s.heap.objs.size f cdv)) → ZPSs TB (cxOf CX0 P w K mg base N qual (defScope st) f cdv A outer s H E).nox (defBody st) t)
    (h : ∀ ws S Kc, sp ws S Kc → ws.length = ps.length → t { nx := fun _ S' => Kc .non S', rt := Kc } (startL N.length ws) S) : ZFn P w K mg base TB (k + 1) f fd ps sp := by
  refine F.ok S (fun vs H Q E h => h.1) fun cdv A outer s H vs Q E hr ⟨hl, A0, S0, ws, Kc, sk, r, hsp, hQ⟩ => ?_
  refine ⟨_, (hbody cdv A outer s H E hr).ps, ?_⟩
  exact lowS_of sk (lok_start N r) (h ws S0 Kc hsp (by rw [r.length]; exact hl)) (fun σ' H' ⟨A1, S1, L1, ea, eh, s1, l1, q⟩ => hQ _ _ ⟨A1, S1, .non, ea, eh, s1, .non, q⟩) (fun v H' q => hQ _ _ q)
    (fun _ _ ⟨_, _, _, _, _, _, _, q⟩ => q.elim) (fun _ _ ⟨_, _, _, _, _, _, _, q⟩ => q.elim)
/-- a def of the text that may be called by its name -/
structure Cal (P : Program) (w : World) (K : PySem.W.Frag) (mg : Str → Option Value) (base : Heap) (TB : List Addr) (k : Nat) (x : Str) (n : Nat) (sp : ZC) : Prop where
  ex : ∃ (f : Addr) (fd : FuncData) (ps : List Str), ps.length = n ∧ ZFn P w K mg base TB k f fd ps sp ∧ mg x = some (.ref f) ∧ PySem.W.keepIn K (.ref f) = true ∧ Binds K fd ps []
theorem Cal.mono {k j : Nat} {x : Str} {n : Nat} {sp : ZC} (c : Cal P w K mg base TB k x n sp) (h : k ≤ j) : Cal P w K mg base TB j x n sp := by
  obtain ⟨f, fd, ps, a, b, c⟩ := c.ex
  exact ⟨f, fd, ps, a, b.mono h, c⟩
theorem Cal.imp {k : Nat} {x : Str} {n : Nat} {sp sp' : ZC} (c : Cal P w K mg base TB k x n sp) (h : ∀ ws S Kc, sp' ws S Kc → sp ws S Kc) : Cal P w K mg base TB k x n sp' := by
  obtain ⟨f, fd, ps, a, b, c⟩ := c.ex
  exact ⟨f, fd, ps, a, b.imp fun vs H Q E ⟨h1, A0, S0, ws, Kc, sk, r, hsp, hQ⟩ => ⟨h1, A0, S0, ws, Kc, sk, r, h _ _ _ hsp, hQ⟩, c⟩
end
section
variable {X : Cx} {TB : List Addr} {e : Expr} {es : List Expr} {ts : ZA} {pos p : Pos} {x : Str} {k n : Nat} {sp : ZC}
theorem z_cal (C : Cal X.prog X.w X.K X.mg X.base TB k x n sp) (hr : Room k X.A) (hg : Gl X x) (ha : ZPA TB X (e :: es) ts) (hdb : (x == ("__debug__" : Str)) = false := by decide)
    (he : starEach (e :: es) X.env = (false, eval e X.env) :: starEach es X.env := by rfl) (hpl : (backTo pos (starEach es X.env)).any (·.1) = false := by rfl) : ZPE TB X (.Call (.Name x p) (e :: es) [] pos) (zCallF n sp ts) := by
  obtain ⟨f, fd, ps, rfl, F, hm, hk, hb⟩ := C.ex
  exact z_call F hr hg hm hk hb ha hdb he hpl
end
/-- the law's promise from the store's: the script as a list that nobody writes -/
theorem law_z {K : PySem.W.Frag} {P : Program} {w : World} {mg : Str → Option Value} {base : Heap} {k : Nat} {f : Addr} {fd : FuncData} {sp : ZC}
    (F : ZFn P w K mg base [] k f fd ["script"] sp) (h : ∀ ns : List Int, ns.length ≤ 63 → ∀ Kc : WK, (∀ S', Kc (.bl true) S') → sp [.ref 0] [.frz (ns.map W.int)] Kc) :
    FnOk P w K mg base CX0 k f fd ["script"] (fun vs H Q _ => ∃ (a : Addr) (ns : List Int), vs = [.ref a] ∧ ns.length ≤ 63 ∧ Only H ∧ SqL K H a (ns.map V.int) ∧ ∀ H', Q (.bl true) H') := by
  refine F.imp fun vs H Q E ⟨a, ns, e, hl, ho, hS, q⟩ => ?_
  subst e
  have fz : FrzAt K H a (ns.map V.int) := by
    rcases hS with (hS | hS) | hS
    · rcases ho a with z | ⟨o, xs, z⟩ <;> rw [hS] at z <;> cases z
    · exact .inl hS
    · exact .inr hS
  have rs : ∀ ns : List Int, Reps K [a] H (ns.map W.int) (ns.map V.int) := by
    intro ns
    induction ns with
    | nil => exact .nil
    | cons n ns ih => exact .cons (.int n) ih
  refine ⟨rfl, [a], [.frz (ns.map W.int)], [.ref 0], fun w S' => w = .bl true, ?_, .cons (.ref rfl) .nil, h ns hl _ fun _ => rfl, fun v H' ⟨A', S', w', _, _, _, r, e⟩ => ?_⟩
  · refine ⟨rfl, fun i j b o u h1 h2 h3 h4 m1 _ => ?_, fun n b o h1 h2 => ?_, fun P hP => nomatch hP⟩
    · cases i with
      | zero => cases h3; cases m1
      | succ i => cases h3
    · cases n with
      | zero =>
        cases h1
        cases h2
        exact Exists.intro _ ⟨fz, rs ns⟩
      | succ n => cases h1
  · subst e
    cases r
    exact q _
end Z

set_option maxHeartbeats 2000000
/-! Z8: keywords' calls; sorted of ints. -/
namespace Z
open PySem PySem.Spec PyProof.Rows L2
theorem hu65 {A : Around} {k : Nat} (hr : Room k A) : A.units + 65 < cLine := by have := hr.un; omega
section
variable {X : Cx} {TB : List Addr} {e : Expr} {es : List Expr} {kws : List Keyword} {ts tr : ZA} {te : ZE} {pos p kpos : Pos} {x : Str} {k n : Nat} {sp : ZC} {nm : Option Str}
structure ZPK (TB : List Addr) (X : Cx) (es : List Keyword) (t : ZA) : Prop where
  pk : PK X es (lowA X.K TB t)
theorem _root_.L2.PK.conv {T T' : TA} (h : PK X kws T) (c : ∀ σ H Q, T' σ H Q → T σ H Q) : PK X kws T' := ⟨fun pos pins s σ H Q I q => h.run pos pins s σ H Q I (c σ H Q q)⟩
theorem zpk_nil : ZPK TB X [] zNil := ⟨pk_nil.conv fun σ H Q ⟨L, S, A, Kc, s, l, h, hQ⟩ => hQ _ _ ⟨A, S, [], .refl _, .refl _, s, .nil, h⟩⟩
theorem zpk_cons (ha : ZPE TB X e te) (hr : ZPK TB X kws tr) : ZPK TB X (⟨nm, e, kpos⟩ :: kws) (zCons te tr) :=
  ⟨(pk_cons ha.pe hr.pk).conv fun σ H Q ⟨L, S, A, Kc, s, l, h, hQ⟩ => ⟨L, S, A, _, s, l, h, fun v1 H1 ⟨A1, S1, w1, ea1, eh1, s1, r1, h1⟩ =>
    ⟨L, S1, A1, _, s1, l.mono ea1 eh1, h1, fun vs H2 ⟨A2, S2, ws, ea2, eh2, s2, r2, h2⟩ => hQ _ _ ⟨A2, S2, w1 :: ws, ea1.trans ea2, eh1.trans eh2, s2, .cons (r1.mono ea2 eh2) r2, h2⟩⟩⟩⟩
/-- the values in the parameters' order -/
def pick {α : Type} (perm : List Nat) (ws : List α) : List α := perm.filterMap fun i => ws[i]?
theorem vals_pick {vs : List V} {us : List Value} (r : Vals vs us) : ∀ perm : List Nat, Vals (pick perm vs) (pick perm us)
  | [] => .nil
  | i :: is => by
    unfold pick
    cases h : vs[i]? with
    | none => rw [List.filterMap_cons_none h, List.filterMap_cons_none (r.none_of h)]; exact vals_pick r is
    | some v =>
      obtain ⟨u, hu, ru⟩ := r.get h
      rw [List.filterMap_cons_some h, List.filterMap_cons_some hu]
      exact .cons ru (vals_pick r is)
theorem Reps.pick {K : PySem.W.Frag} {A : List Addr} {H : Hp} {ws : List W} {vs : List V} (r : Reps K A H ws vs) : ∀ perm : List Nat, Reps K A H (Z.pick perm ws) (Z.pick perm vs)
  | [] => .nil
  | i :: is => by
    unfold Z.pick
    cases h : ws[i]? with
    | none =>
      have h2 : vs[i]? = none := List.getElem?_eq_none_iff.mpr (by rw [← r.length]; exact List.getElem?_eq_none_iff.mp h)
      rw [List.filterMap_cons_none h, List.filterMap_cons_none h2]; exact Reps.pick r is
    | some v =>
      obtain ⟨u, hu, ru⟩ := r.get h
      rw [List.filterMap_cons_some h, List.filterMap_cons_some hu]
      exact .cons ru (Reps.pick r is)
/-- a def called by keywords alone -/
structure CalK (P : Program) (w : World) (K : PySem.W.Frag) (mg : Str → Option Value) (base : Heap) (TB : List Addr) (k : Nat) (x : Str) (n : Nat) (ks : List Str) (perm : List Nat) (sp : ZC) : Prop where
  ex : ∃ (f : Addr) (fd : FuncData) (ps : List Str), ps.length = n ∧ ZFn P w K mg base TB k f fd ps sp ∧ mg x = some (.ref f) ∧ PySem.W.keepIn K (.ref f) = true ∧
    ∀ (s : Shared) (ws : List Value), (pick perm ws).length = ps.length → BindsTo s fd ⟨[], ks.zip ws⟩ (ps.zip (pick perm ws))
theorem CalK.mono {P : Program} {w : World} {K : PySem.W.Frag} {mg : Str → Option Value} {base : Heap} {ks : List Str} {perm : List Nat} {j : Nat} (c : CalK P w K mg base TB k x n ks perm sp) (h : k ≤ j) : CalK P w K mg base TB j x n ks perm sp := by
  obtain ⟨f, fd, ps, a, b, c⟩ := c.ex
  exact ⟨f, fd, ps, a, b.mono h, c⟩
def zCallK (n : Nat) (perm : List Nat) (r : ZC) (ts : ZA) : ZE := fun L S K => ts L S fun ws S1 => qAr (pick perm ws).length n (r (pick perm ws) S1 K)
theorem run_fnk0 {CX : CXT} {f : Addr} {fd : FuncData} {ps ks : List Str} {sp : Sp} {E : XK} {perm : List Nat} {pins : List (Addr × Obj)} {σ : L2.St} {H : Hp} {s : Shared} {Q : VK} {ws : List Value} {zs : List V} (F : FnOk X.prog X.w X.K X.mg X.base CX k f fd ps sp) (hr : Room k X.A)
    (hb : ∀ (s : Shared) (ws : List Value), (pick perm ws).length = ps.length → BindsTo s fd ⟨[], ks.zip ws⟩ (ps.zip (pick perm ws))) (hx : Passes CX X E)
    (I : Inv X pins σ H s) (rz : Vals zs ws) (h : sp (pick perm zs) H Q E) : wpAny (model X.prog X.w) X.A (call (.ref f) [] (ks.zip ws)) (EP X pins σ Q) X.xe s := by
  have r2 := vals_pick rz perm
  have hl : (pick perm ws).length = ps.length := by rw [← r2.length]; exact F.len _ _ _ _ h
  refine wpAny_call (codeAny_mono (F.run X.A X.stack s H ⟨[], ks.zip ws⟩ (pick perm ws) (pick perm zs) Q E hr I.env0 (hb s ws hl) r2 h) fun r s' hq => ?_)
  cases r with
  | error e => exact hx pins σ H s e s' I hq
  | ok fl =>
    cases fl with
    | ret u => exact I.after hq
    | next => exact False.elim hq
    | brk => exact False.elim hq
    | cont => exact False.elim hq
theorem pe_callK0 {CX : CXT} {f : Addr} {fd : FuncData} {ps ks : List Str} {sp : Sp} {E : XK} {tk : TA} {perm : List Nat} (F : FnOk X.prog X.w X.K X.mg X.base CX k f fd ps sp) (hr : Room k X.A) (hg : Gl X x) (hm : X.mg x = some (.ref f)) (hk : PySem.W.keepIn X.K (.ref f) = true)
    (hb : ∀ (s : Shared) (ws : List Value), (pick perm ws).length = ps.length → BindsTo s fd ⟨[], ks.zip ws⟩ (ps.zip (pick perm ws))) (hx : Passes CX X E)
    (hkw : PK X kws tk) (hall : (backToKw pos (keywordEach kws X.env)).all (·.1.isSome) = true := by rfl) (hks : (backToKw pos (keywordEach kws X.env)).filterMap (·.1) = ks := by rfl)
    (hdb : (x == ("__debug__" : Str)) = false := by decide)
    (hpl : ((backTo pos (starEach [] X.env)).any (·.1) || (backToKw pos (keywordEach kws X.env)).any (·.1.isNone)) = false := by rfl) :
    PE X (.Call (.Name x p) [] kws pos) (fun σ H Q => tk σ H fun zs H2 => sp (pick perm zs) H2 Q E) := by
  refine ⟨fun pins s σ H Q I h => ?_⟩
  refine wpAny_Call_Name_kw (ld_glob I hg hm ?_ hdb)
  refine PySem.W.callWith_KW0 (h₀ := X.base) I.ok.mod.kin hk hall (thn (hkw.run pos pins s σ H _ I h) fun ws s2 ⟨zs, H2, I2, rz, q2⟩ => ⟨I2.kIn, ?_⟩) hpl
  rw [hks]
  exact run_fnk0 F hr hb hx I2 rz q2
theorem z_calK {ks : List Str} {perm : List Nat} (C : CalK X.prog X.w X.K X.mg X.base TB k x n ks perm sp) (hr : Room k X.A) (hg : Gl X x) (hkw : ZPK TB X kws ts) (hall : (backToKw pos (keywordEach kws X.env)).all (·.1.isSome) = true := by rfl) (hks : (backToKw pos (keywordEach kws X.env)).filterMap (·.1) = ks := by rfl)
    (hdb : (x == ("__debug__" : Str)) = false := by decide)
    (hpl : ((backTo pos (starEach [] X.env)).any (·.1) || (backToKw pos (keywordEach kws X.env)).any (·.1.isNone)) = false := by rfl) : ZPE TB X (.Call (.Name x p) [] kws pos) (zCallK n perm sp ts) := by
  obtain ⟨f, fd, ps, rfl, F, hm, hk, hb⟩ := C.ex
  exact ⟨(pe_callK0 F hr hg hm hk hb pass0 hkw.pk hall hks hdb hpl).conv fun σ H Q ⟨L, S, A, Kc, s, l, h, hQ⟩ => ⟨L, S, A, _, s, l, h, fun vs H1 ⟨A1, S1, ws, ea1, eh1, s1, r1, h0⟩ => let ⟨hl, h1⟩ := qAr_ex h0
    ⟨by rw [← (r1.pick perm).length]; exact hl, A1, S1, pick perm ws, Kc, s1, r1.pick perm, h1, fun v H' q => hQ v H' (q.on ea1 eh1)⟩⟩⟩
/-- sorted(xs): ints, any number of them -/
@[irreducible] def qSorted : ZC := fun ws S K => Bx (match ws with
  | [.ref n] => ∃ ns : List Int, IsLst S n (ns.map W.int) ∧ ∀ ns' : List Int, ns'.Perm ns → ns'.Pairwise (· ≤ ·) → K (.ref S.length) (S ++ [.lst (ns'.map W.int)])
  | _ => False)
theorem reps_ints {K : PySem.W.Frag} {A : List Addr} {H : Hp} : ∀ ns : List Int, Reps K A H (ns.map W.int) (ns.map V.int)
  | [] => .nil
  | n :: ns => .cons (.int n) (reps_ints ns)
theorem zc_sorted {k : Nat} (hr : Room k X.A) (hc : X.calm = true) : ZOC TB X (.builtin "sorted") qSorted := by
  refine ⟨fun pins s σ H xs us Q I rv h => ?_⟩
  obtain ⟨A, S, ws, Kc, sk, r, h, hQ⟩ := h
  unfold qSorted at h
  replace h := h.ok
  split at h
  · obtain ⟨ns, e1, k⟩ := h
    cases r with
    | cons r1 r =>
      cases r1 with
      | ref h1 =>
        cases r
        obtain ⟨vs, hq, q1⟩ := sk.seq h1 e1
        have e := q1.ints
        subst e
        exact cr_sortedI pins s σ H _ us Q I rv ⟨_, ns, rfl, hq, fun ns' p hp hs hn => hQ _ _ (.lst sk (reps_ints ns') hn (k ns' hp hs))⟩
  · exact h.elim
end
end Z

set_option maxHeartbeats 2000000
/-! Z9: working with the readings: the store's extension, rules for simp. -/
namespace Z
open PySem PySem.Spec PyProof.Rows L2
/-- all cells but those of ms stay as they were -/
def Keep (ms : List Nat) (S S' : Store) : Prop := ∀ n o, n ∉ ms → S[n]? = some o → S'[n]? = some o
abbrev Ext (S S' : Store) : Prop := Keep [] S S'
theorem Keep.refl (ms : List Nat) (S : Store) : Keep ms S S := fun _ _ _ h => h
theorem Keep.trans {ms : List Nat} {S S1 S2 : Store} (a : Keep ms S S1) (b : Keep ms S1 S2) : Keep ms S S2 := fun n o h e => b n o h (a n o h e)
theorem Keep.mono {ms ms' : List Nat} {S S1 : Store} (a : Keep ms S S1) (h : ∀ n ∈ ms, n ∈ ms') : Keep ms' S S1 := fun n o hn e => a n o (fun z => hn (h n z)) e
theorem Ext.keep {ms : List Nat} {S S1 : Store} (a : Ext S S1) : Keep ms S S1 := fun n o _ e => a n o (by simp) e
theorem Ext.get {S S1 : Store} (a : Ext S S1) {n : Nat} {o : O} (e : S[n]? = some o) : S1[n]? = some o := a n o (by simp) e
theorem Keep.app (ms : List Nat) (S T : Store) : Keep ms S (S ++ T) := fun n o _ e => by
  rw [List.getElem?_append_left (List.getElem?_eq_some_iff.mp e).1]; exact e
theorem Keep.set (S : Store) (n : Nat) (o : O) : Keep [n] S (S.set n o) := fun m u hm e => by
  rw [List.getElem?_set_ne (by simp at hm; omega)]; exact e
theorem Keep.lt {ms : List Nat} {S S1 : Store} (a : Keep ms S S1) {n : Nat} (h : n ∉ ms) (hl : n < S.length) : n < S1.length :=
  (List.getElem?_eq_some_iff.mp (a n _ h (List.getElem?_eq_getElem hl))).1
theorem Keep.lst {ms : List Nat} {S S1 : Store} (a : Keep ms S S1) {n : Nat} {xs : List W} (hn : n ∉ ms) (h : IsLst S n xs) : IsLst S1 n xs := isL.mpr ((isL.mp h).elim (fun e => .inl (a n _ hn e)) fun e => .inr (a n _ hn e))
theorem Ext.lst {S S1 : Store} (a : Ext S S1) {n : Nat} {xs : List W} (h : IsLst S n xs) : IsLst S1 n xs := Keep.lst a (by simp) h
theorem getL_of {S : Store} {n : Nat} {xs : List W} (h : S[n]? = some (.lst xs)) : getL S n = some xs := isL.mpr (.inl h)
/-! the store grown by written cells -/
@[simp] theorem app_get (S T : Store) (k : Nat) : (S ++ T)[S.length + k]? = T[k]? := by rw [List.getElem?_append_right (by omega)]; congr 1; omega
@[simp] theorem app_get0 (S T : Store) : (S ++ T)[S.length]? = T[0]? := app_get S T 0
@[simp] theorem app_set (S T : Store) (k : Nat) (o : O) : (S ++ T).set (S.length + k) o = S ++ T.set k o := by rw [List.set_append_right _ _ (by omega)]; congr 2; omega
@[simp] theorem app_set0 (S T : Store) (o : O) : (S ++ T).set S.length o = S ++ T.set 0 o := app_set S T 0 o
theorem getL_get {S T : Store} {n m : Nat} (h : S[n]? = T[m]?) : getL S n = getL T m := by unfold getL; rw [h]
@[simp] theorem getL_app (S T : Store) (k : Nat) : getL (S ++ T) (S.length + k) = getL T k := getL_get (app_get S T k)
@[simp] theorem getL_app0 (S T : Store) : getL (S ++ T) S.length = getL T 0 := getL_get (app_get0 S T)
@[simp] theorem getL_zero (xs : List W) (T : Store) : getL (.lst xs :: T) 0 = some xs := rfl
@[simp] theorem getL_succ (o : O) (T : Store) (k : Nat) : getL (o :: T) (k + 1) = getL T k := rfl
theorem getL_set_ne {S : Store} {n m : Nat} {o : O} (h : n ≠ m) : getL (S.set n o) m = getL S m := getL_get (List.getElem?_set_ne h)
theorem getL_app1 (S : Store) (o : O) (T : Store) (xs : List W) : getL (S ++ o :: .lst xs :: T) (S.length + 1) = some xs := getL_app S _ 1
theorem getL_app00 (S : Store) (T : Store) (xs : List W) : getL (S ++ .lst xs :: T) S.length = some xs := getL_app0 S _
theorem getL_set_self {S : Store} {n : Nat} {xs : List W} (h : n < S.length) : getL (S.set n (.lst xs)) n = some xs := getL_of (List.getElem?_set_self h)
theorem lt_of_get {S : Store} {n : Nat} {o : O} (h : S[n]? = some o) : n < S.length := (List.getElem?_eq_some_iff.mp h).1
theorem app_l {S T : Store} {n : Nat} {o : O} (h : S[n]? = some o) : (S ++ T)[n]? = some o := by rw [List.getElem?_append_left (lt_of_get h)]; exact h
theorem getL_app_l {S T : Store} {n : Nat} {xs : List W} (h : getL S n = some xs) : getL (S ++ T) n = some xs := by
  rcases isL.mp h with e | e
  · exact isL.mpr (.inl (app_l e))
  · exact isL.mpr (.inr (app_l e))
theorem set_ne' {S : Store} {n m : Nat} {o u : O} (h : n ≠ m) (e : S[m]? = some u) : (S.set n o)[m]? = some u := by rw [List.getElem?_set_ne h]; exact e
theorem getL_set_ne' {S : Store} {n m : Nat} {o : O} {xs : List W} (h : n ≠ m) (e : getL S m = some xs) : getL (S.set n o) m = some xs := by rw [getL_set_ne h]; exact e
theorem Keep.app_r {ms : List Nat} {S S1 T : Store} (h : Keep ms S S1) : Keep ms S (S1 ++ T) := h.trans (Keep.app _ _ _)
theorem Keep.set_in {ms : List Nat} {S S1 : Store} {n : Nat} {o : O} (hn : n ∈ ms) (h : Keep ms S S1) : Keep ms S (S1.set n o) := fun m u hm e => by
  rw [List.getElem?_set_ne (fun z : n = m => hm (by rw [← z]; exact hn))]; exact h m u hm e
theorem Keep.set_new {ms : List Nat} {S S1 : Store} {n : Nat} {o : O} (hn : S.length ≤ n) (h : Keep ms S S1) : Keep ms S (S1.set n o) := fun m u hm e => by
  have := lt_of_get e
  rw [List.getElem?_set_ne (by omega)]; exact h m u hm e
theorem Keep.len {ms : List Nat} {S S1 : Store} (h : Keep ms S S1) (hm : ∀ m ∈ ms, m < S1.length) : S.length ≤ S1.length := by
  by_cases h0 : S.length = 0
  · omega
  · by_cases hi : S.length - 1 ∈ ms
    · have := hm _ hi; omega
    · have := h.lt hi (by omega); omega
theorem cut_to {α : Type} (xs : List α) (k : Nat) : cut xs none (some (k : Int)) = xs.take k := by
  unfold cut
  rw [HT.sIx_none, HT.sIx_nat, List.drop_zero, Nat.sub_zero, List.take_eq_take_iff]
  omega
theorem cut_from {α : Type} (xs : List α) (k : Nat) : cut xs (some (k : Int)) none = xs.drop k := by
  unfold cut
  rw [HT.sIx_none, HT.sIx_nat]
  by_cases h : k ≤ xs.length
  · rw [Nat.min_eq_left h, List.take_of_length_le (by rw [List.length_drop]; omega)]
  · rw [Nat.min_eq_right (by omega), Nat.sub_self, List.take_zero, List.drop_eq_nil_of_le (by omega)]
theorem cut_m1 {α : Type} (xs : List α) : cut xs none (some (-1)) = xs.dropLast := by
  unfold cut
  rw [HT.sIx_none, List.drop_zero, Nat.sub_zero, List.dropLast_eq_take]
  congr 1
  unfold HT.sIx
  simp
  omega
/-! subscripts by written numbers -/
theorem atI_cast {α : Type} (xs : List α) (k : Nat) : atI xs (k : Int) = xs[k]? := by
  unfold atI ixN
  rw [if_pos (by omega)]
  by_cases h : k < xs.length
  · rw [if_pos (by omega)]; simp
  · rw [if_neg (by omega), List.getElem?_eq_none (by omega)]; rfl
@[simp] theorem atI_lit {α : Type} (xs : List α) (k : Nat) : atI xs (no_index (OfNat.ofNat k : Int)) = xs[k]? := atI_cast xs k
theorem atI_neg {α : Type} (xs : List α) (k : Nat) (h : k < xs.length) : atI xs (-((k : Int) + 1)) = xs[xs.length - 1 - k]? := by
  unfold atI ixN
  rw [if_neg (by omega), if_pos (by omega)]
  show xs[_]? = _
  congr 1
  omega
theorem atI_m1 {α : Type} (xs : List α) : atI xs (-1) = xs.getLast? := by
  cases xs with
  | nil => rfl
  | cons x xs =>
    have := atI_neg (x :: xs) 0 (by simp)
    rw [List.getLast?_eq_getElem?]
    exact this
theorem atI_ints {ns : List Int} {p : Int} (h0 : 0 ≤ p) (h1 : p < ns.length) : atI (ns.map W.int) p = some (.int (ns.getD p.toNat 0)) := by
  obtain ⟨k, rfl⟩ : ∃ k : Nat, p = (k : Int) := ⟨p.toNat, by omega⟩
  have h2 : k < ns.length := by omega
  rw [atI_cast, List.getElem?_map, List.getElem?_eq_getElem h2]
  simp [h2]
@[simp] theorem ixN_lit (n : Nat) (k : Nat) : ixN n (no_index (OfNat.ofNat k : Int)) = if k < n then some k else none := by
  show ixN n (k : Int) = _
  unfold ixN
  rw [if_pos (by omega)]
  by_cases h : k < n
  · rw [if_pos (by omega), if_pos h]; simp
  · rw [if_neg (by omega), if_neg h]
/-! == -/
theorem qEq_scal {neg : Bool} {x y : W} {d e : PyData} {b : Bool} {S : Store} {K : WK} (h1 : DataOf S x d) (h2 : DataOf S y e) (s1 : SeqAt.shaped d = true) (s2 : SeqAt.shaped e = true) (q : PyData.eqv d e = b) (h : K (.bl (neg ^^ b)) S) : qEq neg x y S K := by
  unfold qEq
  refine ⟨?_⟩
  exact ⟨d, e, h1, h2, s1, s2, by rw [q]; exact h⟩
/-! numbers -/
theorem MulOk.r {i j : Int} (h1 : -18446744073709551616 < j) (h2 : j < 18446744073709551616) : MulOk i j := .inr (.inl ⟨h1, h2⟩)
theorem MulOk.l {i j : Int} (h1 : -18446744073709551616 < i) (h2 : i < 18446744073709551616) : MulOk i j := .inl ⟨h1, h2⟩
theorem DivOk.small {i j : Int} (h1 : 0 < j) (h2 : j < 18446744073709551616) : DivOk i j := by
  refine ⟨h1, ?_⟩
  have h3 : j.natAbs < 2 ^ 64 := by omega
  have : j.natAbs.log2 < 64 := (Nat.log2_lt (by omega)).mpr h3
  omega


theorem DivOk.any {i j k : Int} (h : DivOk k j) : DivOk i j := h
theorem PowOk.lit {i j : Int} (h1 : 0 ≤ j) (h2 : j ≤ 1000000) (h3 : i.natAbs < 2 ^ 64) : PowOk i j := ⟨h1, h2, h3⟩
/-- the turn's own names forgotten -/
def qWipe (L : Loc') : List Nat → (Loc' → Prop) → Prop
  | [], k => k L
  | v :: vs, k => qWipe L vs fun L' => qLet v none L' k
theorem qWipe_eq {L : Loc'} {vs : List Nat} : ∀ {k : Loc' → Prop}, qWipe L vs k ↔ k (wipeL L vs) := by
  induction vs with
  | nil => intro k; exact Iff.rfl
  | cons v vs ih => intro k; exact ih.trans qLet_iff
/-! step by step: the readings that are not reckoned out by whnf -/
section
variable {L : Loc'} {S T : Store} {D : ZEnds} {K : WK} {tt : ZT} {ta : ZE} {g : ZTG} {w x y : W} {ws xs ys : List W} {i j : Int} {n m k : Nat} {A B : Prop} {b : Bool} {o : O}
theorem s_sz (h : k ≤ 16777216) : k ≤ sizeLine := by rw [sizeLine_eq]; exact h
theorem s_szl (h : k < 16777216) : k < sizeLine := by rw [sizeLine_eq]; exact h
theorem i_t (e : b = true) (h : A) : qIf b A B := by subst e; rw [qIf_t]; exact h
theorem i_f (e : b = false) (h : B) : qIf b A B := by subst e; rw [qIf_f]; exact h
theorem i_b (h1 : b = true → A) (h2 : b = false → B) : qIf b A B := by
  cases b
  · rw [qIf_f]; exact h2 rfl
  · rw [qIf_t]; exact h1 rfl
theorem i_d {p : Prop} {dp : Decidable p} (h1 : p → A) (h2 : ¬ p → B) : qIf (decide p) A B := i_b (fun h => h1 (of_decide_eq_true h)) fun h => h2 (of_decide_eq_false h)
theorem i_n {p : Prop} {dp : Decidable p} (h1 : ¬ p → A) (h2 : p → B) : qIf (!decide p) A B := i_b (fun h => h1 (of_decide_eq_false (by simpa using h))) fun h => h2 (by simpa using h)
theorem i_dt {p : Prop} {dp : Decidable p} (hp : p) (h : A) : qIf (decide p) A B := i_t (decide_eq_true hp) h
theorem i_df {p : Prop} {dp : Decidable p} (hp : ¬ p) (h : B) : qIf (decide p) A B := i_f (decide_eq_false hp) h
theorem i_nt {p : Prop} {dp : Decidable p} (hp : ¬ p) (h : A) : qIf (!decide p) A B := i_t (by simp [hp]) h
theorem i_nf {p : Prop} {dp : Decidable p} (hp : p) (h : B) : qIf (!decide p) A B := i_f (by simp [hp]) h
theorem shaped_str {s : Str} (h : PyData.strOk s = true) : SeqAt.shaped (.str s) = true := by
  unfold SeqAt.shaped
  rw [PyData.canLay0, h]
  rfl
theorem q_eq_str {s t : Str} (hs : PyData.strOk s = true) (ht : PyData.strOk t = true) (h : K (.bl (decide (s = t))) S) : qEq false (.str s) (.str t) S K := qEq_scal (.str s) (.str t) (shaped_str hs) (shaped_str ht) (by rw [PyData.eqv, Bool.beq_eq_decide_eq]) (by rw [Bool.false_xor]; exact h)
theorem q_ne_str {s t : Str} (hs : PyData.strOk s = true) (ht : PyData.strOk t = true) (h : K (.bl (!decide (s = t))) S) : qEq true (.str s) (.str t) S K := qEq_scal (.str s) (.str t) (shaped_str hs) (shaped_str ht) (by rw [PyData.eqv, Bool.beq_eq_decide_eq]) (by rw [Bool.true_xor]; exact h)
/-! operators -/
theorem q_eq_int (h : K (.bl (decide (i = j))) S) : qEq false (.int i) (.int j) S K := qEq_scal (.int i) (.int j) rfl rfl (by rw [PyData.eqv, Bool.beq_eq_decide_eq]) (by rw [Bool.false_xor]; exact h)
theorem q_ne_int (h : K (.bl (!decide (i = j))) S) : qEq true (.int i) (.int j) S K := qEq_scal (.int i) (.int j) rfl rfl (by rw [PyData.eqv, Bool.beq_eq_decide_eq]) (by rw [Bool.true_xor]; exact h)
theorem q_eq_bl {b c : Bool} (h : K (.bl (decide (b = c))) S) : qEq false (.bl b) (.bl c) S K := qEq_scal (.bl b) (.bl c) rfl rfl (by rw [PyData.eqv, Bool.beq_eq_decide_eq]) (by rw [Bool.false_xor]; exact h)
theorem q_ne_bl {b c : Bool} (h : K (.bl (!decide (b = c))) S) : qEq true (.bl b) (.bl c) S K := qEq_scal (.bl b) (.bl c) rfl rfl (by rw [PyData.eqv, Bool.beq_eq_decide_eq]) (by rw [Bool.true_xor]; exact h)
theorem q_is_non (h : K (.bl (isNon x)) S) : qIsN false x .non S K := by unfold qIsN; exact ⟨⟨rfl, by rw [Bool.false_xor]; exact h⟩⟩
theorem q_isnot_non (h : K (.bl (!isNon x)) S) : qIsN true x .non S K := by unfold qIsN; exact ⟨⟨rfl, by rw [Bool.true_xor]; exact h⟩⟩
theorem q_ix_tup (e : atI xs i = some w) (h : K w S) : qIx (.tup xs) (.int i) S K := by unfold qIx; exact ⟨⟨w, e, h⟩⟩
theorem q_ix_ref (e : IsLst S n xs) (e2 : atI xs i = some w) (h : K w S) : qIx (.ref n) (.int i) S K := by unfold qIx; exact ⟨⟨xs, e, w, e2, h⟩⟩
theorem q_len_tup (h : K (.int xs.length) S) : qLen [.tup xs] S K := by unfold qLen; exact ⟨h⟩
theorem q_len_ref (e : IsLst S n xs) (h : K (.int xs.length) S) : qLen [.ref n] S K := by unfold qLen; exact ⟨⟨xs, e, h⟩⟩
theorem q_tup_tup (h : K (.tup xs) S) : qTup [.tup xs] S K := by unfold qTup; exact ⟨h⟩
theorem q_tup_ref (e : IsLst S n xs) (h : K (.tup xs) S) : qTup [.ref n] S K := by unfold qTup; exact ⟨⟨xs, e, h⟩⟩
theorem q_list_tup (h : K (.ref S.length) (S ++ [.lst xs])) : qList [.tup xs] S K := by unfold qList; exact ⟨h⟩
theorem q_list_ref (e : IsLst S n xs) (h : K (.ref S.length) (S ++ [.lst xs])) : qList [.ref n] S K := by unfold qList; exact ⟨⟨xs, e, h⟩⟩
theorem q_isi {U nm : String} (e1 : x.tyName S = some nm) (e2 : kitB nm U = some b) (h : K (.bl b) S) : qIsi [x, .ty U] S K := by unfold qIsi; exact ⟨⟨nm, b, e1, e2, h⟩⟩
theorem q_sl_tup {lo hi : Option Int} (h : K (.tup (cut xs lo hi)) S) : qSl (.tup xs) lo hi S K := by unfold qSl; exact ⟨h⟩
theorem q_sl_ref {lo hi : Option Int} (e : IsLst S n xs) (h : K (.ref S.length) (S ++ [.lst (cut xs lo hi)])) : qSl (.ref n) lo hi S K := by unfold qSl; exact ⟨⟨xs, e, h⟩⟩
theorem q_sl_tupE {lo hi : Option Int} (e : cut xs lo hi = ys) (h : K (.tup ys) S) : qSl (.tup xs) lo hi S K := q_sl_tup (by rw [e]; exact h)
theorem q_sl_refE {lo hi : Option Int} (e : IsLst S n xs) (e2 : cut xs lo hi = ys) (h : K (.ref S.length) (S ++ [.lst ys])) : qSl (.ref n) lo hi S K := q_sl_ref e (by rw [e2]; exact h)
theorem s_isml (e : IsLst S n xs) (h : A) : onLst (.ref n) S A := ⟨⟨n, xs, rfl, e⟩, h⟩
theorem q_append (e : S[n]? = some (.lst xs)) (hz : xs.length < sizeLine) (h : K .non (S.set n (.lst (xs ++ [w])))) : qAppend (.ref n) [w] S K := by unfold qAppend; exact ⟨⟨xs, e, hz, h⟩⟩
theorem q_append2 (hl : n < S.length) (hz : xs.length < sizeLine) (h : K .non (S.set n (.lst (xs ++ [w])))) : qAppend (.ref n) [w] (S.set n (.lst xs)) K := q_append (List.getElem?_set_self hl) hz (by rw [List.set_set]; exact h)
theorem q_append0 (hz : xs.length < sizeLine) (h : K .non (S ++ .lst (xs ++ [w]) :: T)) : qAppend (.ref S.length) [w] (S ++ .lst xs :: T) K := q_append (by rw [app_get0]; rfl) hz (by rw [app_set0]; exact h)
theorem q_append1 (hz : xs.length < sizeLine) (h : K .non (S ++ o :: .lst (xs ++ [w]) :: T)) : qAppend (.ref (S.length + 1)) [w] (S ++ o :: .lst xs :: T) K := q_append (by rw [app_get]; rfl) hz (by rw [app_set]; exact h)
theorem q_cat (e1 : S[n]? = some (.lst xs)) (e2 : S[m]? = some (.lst ys)) (hz : xs.length + ys.length ≤ sizeLine) (h : K (.ref S.length) (S ++ [.lst (xs ++ ys)])) : qCat n m S K := by unfold qCat; exact ⟨⟨xs, ys, e1, e2, hz, h⟩⟩
theorem q_pop0 {x : W} (e : S[n]? = some (.lst (x :: xs))) (h : K x (S.set n (.lst xs))) : qPop (.ref n) [.int 0] S K := by
  unfold qPop
  exact ⟨⟨x :: xs, 0, x, e, by decide, by decide, by unfold seqIndex?; simp, rfl, h⟩⟩
theorem q_pop (e : S[n]? = some (.lst xs)) (e2 : xs.getLast? = some x) (h : K x (S.set n (.lst xs.dropLast))) : qPop (.ref n) [] S K := by
  unfold qPop
  exact ⟨⟨xs, x, e, by rw [← List.getLast?_eq_getElem?]; exact e2, h⟩⟩
theorem q_popi (e : S[n]? = some (.lst xs)) (e2 : xs[k]? = some x) (hz : xs.length < 9223372036854775808) (h : K x (S.set n (.lst (xs.eraseIdx k)))) : qPop (.ref n) [.int (k : Nat)] S K := by
  have hk := (List.getElem?_eq_some_iff.mp e2).1
  unfold qPop
  refine ⟨⟨xs, k, x, e, by omega, by omega, ?_, e2, h⟩⟩
  unfold seqIndex?
  simp
  omega
theorem q_setL {KS : Store → Prop} (e : S[n]? = some (.lst xs)) (e2 : ixN xs.length i = some m) (h : KS (S.set n (.lst (xs.set m w)))) : qSetL (.ref n) (.int i) w S KS := by unfold qSetL; exact ⟨⟨xs, m, e, e2, h⟩⟩
theorem q_setL2 {KS : Store → Prop} (hl : n < S.length) (e2 : ixN xs.length i = some m) (h : KS (S.set n (.lst (xs.set m w)))) : qSetL (.ref n) (.int i) w (S.set n (.lst xs)) KS := q_setL (List.getElem?_set_self hl) e2 (by rw [List.set_set]; exact h)
theorem s_seqI_tup {KI : ZIt → Store → Prop} (h : KI ⟨xs, fun _ => True⟩ S) : qSeqI KI (.tup xs) S := by unfold qSeqI; exact ⟨.inl ⟨xs, rfl, h⟩⟩
theorem s_seqI_ref {KI : ZIt → Store → Prop} (e : IsLst S n xs) (h : KI ⟨xs, fun S' => IsLst S' n xs⟩ S) : qSeqI KI (.ref n) S := by unfold qSeqI; exact ⟨.inr ⟨n, xs, rfl, e, h⟩⟩
/-- a for by its invariant -/
theorem forI {its : List W} {G : Store → Prop} {tb : ZS} (P : Nat → Loc' → Store → Prop) (h0 : P 0 L S) (hG : ∀ i L S, P i L S → G S)
    (turn : ∀ (i : Nat) (w : W) (L : Loc') (S : Store), its[i]? = some w → P i L S → g w L S fun L' S' => tb ⟨P (i + 1), D.rt, D.nx, P (i + 1)⟩ L' S') (done : ∀ L S, P its.length L S → D.nx L S) : FlEnd ⟨its, G⟩ g tb D L S := by
  unfold FlEnd
  refine ⟨?_⟩
  exact ⟨P, h0, fun i w L S e p => ⟨hG i L S p, turn i w L S e p⟩, fun L S p => ⟨hG _ L S p, done L S p⟩⟩
/-- a while by its invariant and a number that falls -/
theorem whI {c : ZT} {tb : ZS} (P : Nat → Loc' → Store → Prop) (m0 : Nat) (h0 : P m0 L S) (turn : ∀ m L S, P m L S → c L S fun b S1 => qIf b (tb ⟨fun L' S' => ∃ m', m' < m ∧ P m' L' S', D.rt, D.nx, fun L' S' => ∃ m', m' < m ∧ P m' L' S'⟩ L S1) (D.nx L S1)) : WhEnd c tb D L S := by
  unfold WhEnd
  refine ⟨?_⟩
  exact ⟨P, ⟨m0, h0⟩, turn⟩
end
section
variable {L : Loc'} {S1 : Store} {K : WK} {te : ZE} {tt : ZT} {g : ZTG} {vs : List Nat} {its : List W} {G : Store → Prop}
/-- by what holds of the list made so far and of the store: ms the cells that a turn may change -/
theorem lcI (ms : List Nat) (I : Store → Prop) (Gd : Nat → List W → Prop) (hD : S1.length ∉ ms) (hm : ∀ m ∈ ms, m < S1.length) (hI : ∀ S o, I S → S1.length < S.length → I (S.set S1.length o)) (hI0 : I (S1 ++ [.lst []]))
    (hG : ∀ S, Keep ms S1 S → G S) (h0 : Gd 0 []) (hsz : ∀ i acc, i < its.length → Gd i acc → acc.length < sizeLine)
    (turn : ∀ (i : Nat) (acc : List W) (w : W) (S2 : Store) (Kt : WK) (Kf : Store → Prop), its[i]? = some w → Gd i acc → I S2 → Keep ms S1 S2 → S1.length < S2.length →
      (∀ y S5, Keep ms S2 S5 → I S5 → Gd (i + 1) (acc ++ [y]) → Kt y S5) → (∀ S4, Keep ms S2 S4 → I S4 → Gd (i + 1) acc → Kf S4) →
      qWipe L vs fun L0 => g w L0 S2 fun L' S3 => tt L' S3 fun b S4 => qIf b (te L' S4 Kt) (Kf S4))
    (done : ∀ acc S2, Gd its.length acc → I S2 → Keep ms S1 S2 → S2[S1.length]? = some (.lst acc) → K (.ref S1.length) S2) : LcEnd ⟨its, G⟩ g tt te vs L S1 K := by
  unfold LcEnd
  refine ⟨?_⟩
  refine ⟨fun i acc S2 => Gd i acc ∧ I S2 ∧ Keep ms S1 S2 ∧ S2[S1.length]? = some (.lst acc), ⟨h0, hI0, Keep.app _ _ _, by simp⟩, fun i acc w S2 hw ⟨a, b, c, d⟩ => ?_, fun acc S2 ⟨a, b, c, d⟩ => ⟨hG S2 c, done acc S2 a b c d⟩⟩
  have hlt : S1.length < S2.length := lt_of_get d
  have hil := (List.getElem?_eq_some_iff.mp hw).1
  refine ⟨hG S2 c, d, qWipe_eq.mp (turn i acc w S2 _ _ hw a b c hlt (fun y S5 k1 k2 k3 => ?_) fun S4 k1 k2 k3 => ?_)⟩
  · have d5 := k1 _ _ hD d
    unfold qPush
    refine ⟨d5, hsz i acc hil a, k3, hI _ _ k2 (lt_of_get d5), fun n o hn e => ?_, List.getElem?_set_self (lt_of_get d5)⟩
    have hne : S1.length ≠ n := Nat.ne_of_gt (lt_of_get e)
    rw [List.getElem?_set_ne hne]
    exact (c.trans k1) n o hn e
  · exact ⟨k3, k2, c.trans k1, k1 _ _ hD d⟩
/-- a pure element, no test: f of each item -/
theorem lcM (f : Nat → W → W) (hG : ∀ S, Ext S1 S → G S) (hsz : its.length ≤ sizeLine)
    (turn : ∀ (i : Nat) (w : W) (S2 : Store) (Kt : WK) (Kf : Store → Prop), its[i]? = some w → Ext S1 S2 → (∀ S5, Ext S2 S5 → Kt (f i w) S5) → qWipe L vs fun L0 => g w L0 S2 fun L' S3 => tt L' S3 fun b S4 => qIf b (te L' S4 Kt) (Kf S4))
    (done : ∀ S2, Ext S1 S2 → S2[S1.length]? = some (.lst (its.mapIdx f)) → K (.ref S1.length) S2) : LcEnd ⟨its, G⟩ g tt te vs L S1 K := by
  refine lcI [] (fun _ => True) (fun i acc => acc = (its.take i).mapIdx f) (by simp) (by simp) (fun _ _ _ _ => trivial) trivial hG rfl (fun i acc hi e => ?_) (fun i acc w S2 Kt Kf hw e _ k _ hK _ => turn i w S2 Kt Kf hw k fun S5 k5 => hK _ _ k5 trivial ?_) fun acc S2 e _ k hS => done S2 k ?_
  · subst e
    rw [List.length_mapIdx, List.length_take]
    omega
  · subst e
    have hi := (List.getElem?_eq_some_iff.mp hw).1
    rw [List.take_add_one, hw, Option.toList_some, List.mapIdx_append, List.length_take, Nat.min_eq_left (by omega)]
    simp
  · subst e
    rw [List.take_length] at hS
    exact hS
/-- a pure element with a test: f of each item, none where the test refuses -/
theorem lcF (f : W → Option W) (hG : ∀ S, Ext S1 S → G S) (hsz : its.length ≤ sizeLine)
    (turn : ∀ (i : Nat) (w : W) (S2 : Store) (Kt : WK) (Kf : Store → Prop), its[i]? = some w → Ext S1 S2 → (∀ y S5, f w = some y → Ext S2 S5 → Kt y S5) → (∀ S4, f w = none → Ext S2 S4 → Kf S4) → qWipe L vs fun L0 => g w L0 S2 fun L' S3 => tt L' S3 fun b S4 => qIf b (te L' S4 Kt) (Kf S4))
    (done : ∀ S2, Ext S1 S2 → S2[S1.length]? = some (.lst (its.filterMap f)) → K (.ref S1.length) S2) : LcEnd ⟨its, G⟩ g tt te vs L S1 K := by
  refine lcI [] (fun _ => True) (fun i acc => acc = (its.take i).filterMap f) (by simp) (by simp) (fun _ _ _ _ => trivial) trivial hG rfl (fun i acc hi e => ?_) (fun i acc w S2 Kt Kf hw e _ k _ hK hK' => turn i w S2 Kt Kf hw k (fun y S5 ey k5 => hK _ _ k5 trivial ?_) fun S4 ey k4 => hK' _ k4 trivial ?_) fun acc S2 e _ k hS => done S2 k ?_
  · subst e
    have := List.length_filterMap_le f (its.take i)
    rw [List.length_take] at this
    omega
  · subst e
    rw [List.take_add_one, hw, Option.toList_some, List.filterMap_append, List.filterMap_cons_some ey, List.filterMap_nil]
  · subst e
    rw [List.take_add_one, hw, Option.toList_some, List.filterMap_append, List.filterMap_cons_none ey, List.filterMap_nil, List.append_nil]
  · subst e
    rw [List.take_length] at hS
    exact hS
end
/-! a local is written: by its place -/
section
variable {a0 a1 a2 a3 a4 a5 a6 a7 a8 a9 a10 a11 a12 a13 a14 a15 a16 a17 a18 a19 a20 a21 a22 a23 a24 a25 a26 a27 a28 a29 a30 a31 a32 a33 a34 a35 a36 a37 a38 a39 x9 w9 : Option W} {L9 : Loc'} {k9 : Loc' → Prop}
theorem q_let0 (h : k9 (w9 :: L9)) : qLet 0 w9 (x9 :: L9) k9 := qLet_iff.mpr h
theorem q_let1 (h : k9 (a0 :: w9 :: L9)) : qLet 1 w9 (a0 :: x9 :: L9) k9 := qLet_iff.mpr h
theorem q_let2 (h : k9 (a0 :: a1 :: w9 :: L9)) : qLet 2 w9 (a0 :: a1 :: x9 :: L9) k9 := qLet_iff.mpr h
theorem q_let3 (h : k9 (a0 :: a1 :: a2 :: w9 :: L9)) : qLet 3 w9 (a0 :: a1 :: a2 :: x9 :: L9) k9 := qLet_iff.mpr h
theorem q_let4 (h : k9 (a0 :: a1 :: a2 :: a3 :: w9 :: L9)) : qLet 4 w9 (a0 :: a1 :: a2 :: a3 :: x9 :: L9) k9 := qLet_iff.mpr h
theorem q_let5 (h : k9 (a0 :: a1 :: a2 :: a3 :: a4 :: w9 :: L9)) : qLet 5 w9 (a0 :: a1 :: a2 :: a3 :: a4 :: x9 :: L9) k9 := qLet_iff.mpr h
theorem q_let6 (h : k9 (a0 :: a1 :: a2 :: a3 :: a4 :: a5 :: w9 :: L9)) : qLet 6 w9 (a0 :: a1 :: a2 :: a3 :: a4 :: a5 :: x9 :: L9) k9 := qLet_iff.mpr h
theorem q_let7 (h : k9 (a0 :: a1 :: a2 :: a3 :: a4 :: a5 :: a6 :: w9 :: L9)) : qLet 7 w9 (a0 :: a1 :: a2 :: a3 :: a4 :: a5 :: a6 :: x9 :: L9) k9 := qLet_iff.mpr h
theorem q_let8 (h : k9 (a0 :: a1 :: a2 :: a3 :: a4 :: a5 :: a6 :: a7 :: w9 :: L9)) : qLet 8 w9 (a0 :: a1 :: a2 :: a3 :: a4 :: a5 :: a6 :: a7 :: x9 :: L9) k9 := qLet_iff.mpr h
theorem q_let9 (h : k9 (a0 :: a1 :: a2 :: a3 :: a4 :: a5 :: a6 :: a7 :: a8 :: w9 :: L9)) : qLet 9 w9 (a0 :: a1 :: a2 :: a3 :: a4 :: a5 :: a6 :: a7 :: a8 :: x9 :: L9) k9 := qLet_iff.mpr h
theorem q_let10 (h : k9 (a0 :: a1 :: a2 :: a3 :: a4 :: a5 :: a6 :: a7 :: a8 :: a9 :: w9 :: L9)) : qLet 10 w9 (a0 :: a1 :: a2 :: a3 :: a4 :: a5 :: a6 :: a7 :: a8 :: a9 :: x9 :: L9) k9 := qLet_iff.mpr h
theorem q_let11 (h : k9 (a0 :: a1 :: a2 :: a3 :: a4 :: a5 :: a6 :: a7 :: a8 :: a9 :: a10 :: w9 :: L9)) : qLet 11 w9 (a0 :: a1 :: a2 :: a3 :: a4 :: a5 :: a6 :: a7 :: a8 :: a9 :: a10 :: x9 :: L9) k9 := qLet_iff.mpr h
theorem q_let12 (h : k9 (a0 :: a1 :: a2 :: a3 :: a4 :: a5 :: a6 :: a7 :: a8 :: a9 :: a10 :: a11 :: w9 :: L9)) : qLet 12 w9 (a0 :: a1 :: a2 :: a3 :: a4 :: a5 :: a6 :: a7 :: a8 :: a9 :: a10 :: a11 :: x9 :: L9) k9 := qLet_iff.mpr h
theorem q_let13 (h : k9 (a0 :: a1 :: a2 :: a3 :: a4 :: a5 :: a6 :: a7 :: a8 :: a9 :: a10 :: a11 :: a12 :: w9 :: L9)) : qLet 13 w9 (a0 :: a1 :: a2 :: a3 :: a4 :: a5 :: a6 :: a7 :: a8 :: a9 :: a10 :: a11 :: a12 :: x9 :: L9) k9 := qLet_iff.mpr h
theorem q_let14 (h : k9 (a0 :: a1 :: a2 :: a3 :: a4 :: a5 :: a6 :: a7 :: a8 :: a9 :: a10 :: a11 :: a12 :: a13 :: w9 :: L9)) : qLet 14 w9 (a0 :: a1 :: a2 :: a3 :: a4 :: a5 :: a6 :: a7 :: a8 :: a9 :: a10 :: a11 :: a12 :: a13 :: x9 :: L9) k9 := qLet_iff.mpr h
theorem q_let15 (h : k9 (a0 :: a1 :: a2 :: a3 :: a4 :: a5 :: a6 :: a7 :: a8 :: a9 :: a10 :: a11 :: a12 :: a13 :: a14 :: w9 :: L9)) : qLet 15 w9 (a0 :: a1 :: a2 :: a3 :: a4 :: a5 :: a6 :: a7 :: a8 :: a9 :: a10 :: a11 :: a12 :: a13 :: a14 :: x9 :: L9) k9 := qLet_iff.mpr h
theorem q_let16 (h : k9 (a0 :: a1 :: a2 :: a3 :: a4 :: a5 :: a6 :: a7 :: a8 :: a9 :: a10 :: a11 :: a12 :: a13 :: a14 :: a15 :: w9 :: L9)) : qLet 16 w9 (a0 :: a1 :: a2 :: a3 :: a4 :: a5 :: a6 :: a7 :: a8 :: a9 :: a10 :: a11 :: a12 :: a13 :: a14 :: a15 :: x9 :: L9) k9 := qLet_iff.mpr h
theorem q_let17 (h : k9 (a0 :: a1 :: a2 :: a3 :: a4 :: a5 :: a6 :: a7 :: a8 :: a9 :: a10 :: a11 :: a12 :: a13 :: a14 :: a15 :: a16 :: w9 :: L9)) : qLet 17 w9 (a0 :: a1 :: a2 :: a3 :: a4 :: a5 :: a6 :: a7 :: a8 :: a9 :: a10 :: a11 :: a12 :: a13 :: a14 :: a15 :: a16 :: x9 :: L9) k9 := qLet_iff.mpr h
theorem q_let18 (h : k9 (a0 :: a1 :: a2 :: a3 :: a4 :: a5 :: a6 :: a7 :: a8 :: a9 :: a10 :: a11 :: a12 :: a13 :: a14 :: a15 :: a16 :: a17 :: w9 :: L9)) : qLet 18 w9 (a0 :: a1 :: a2 :: a3 :: a4 :: a5 :: a6 :: a7 :: a8 :: a9 :: a10 :: a11 :: a12 :: a13 :: a14 :: a15 :: a16 :: a17 :: x9 :: L9) k9 := qLet_iff.mpr h
theorem q_let19 (h : k9 (a0 :: a1 :: a2 :: a3 :: a4 :: a5 :: a6 :: a7 :: a8 :: a9 :: a10 :: a11 :: a12 :: a13 :: a14 :: a15 :: a16 :: a17 :: a18 :: w9 :: L9)) : qLet 19 w9 (a0 :: a1 :: a2 :: a3 :: a4 :: a5 :: a6 :: a7 :: a8 :: a9 :: a10 :: a11 :: a12 :: a13 :: a14 :: a15 :: a16 :: a17 :: a18 :: x9 :: L9) k9 := qLet_iff.mpr h
theorem q_let20 (h : k9 (a0 :: a1 :: a2 :: a3 :: a4 :: a5 :: a6 :: a7 :: a8 :: a9 :: a10 :: a11 :: a12 :: a13 :: a14 :: a15 :: a16 :: a17 :: a18 :: a19 :: w9 :: L9)) : qLet 20 w9 (a0 :: a1 :: a2 :: a3 :: a4 :: a5 :: a6 :: a7 :: a8 :: a9 :: a10 :: a11 :: a12 :: a13 :: a14 :: a15 :: a16 :: a17 :: a18 :: a19 :: x9 :: L9) k9 := qLet_iff.mpr h
theorem q_let21 (h : k9 (a0 :: a1 :: a2 :: a3 :: a4 :: a5 :: a6 :: a7 :: a8 :: a9 :: a10 :: a11 :: a12 :: a13 :: a14 :: a15 :: a16 :: a17 :: a18 :: a19 :: a20 :: w9 :: L9)) : qLet 21 w9 (a0 :: a1 :: a2 :: a3 :: a4 :: a5 :: a6 :: a7 :: a8 :: a9 :: a10 :: a11 :: a12 :: a13 :: a14 :: a15 :: a16 :: a17 :: a18 :: a19 :: a20 :: x9 :: L9) k9 := qLet_iff.mpr h
theorem q_let22 (h : k9 (a0 :: a1 :: a2 :: a3 :: a4 :: a5 :: a6 :: a7 :: a8 :: a9 :: a10 :: a11 :: a12 :: a13 :: a14 :: a15 :: a16 :: a17 :: a18 :: a19 :: a20 :: a21 :: w9 :: L9)) : qLet 22 w9 (a0 :: a1 :: a2 :: a3 :: a4 :: a5 :: a6 :: a7 :: a8 :: a9 :: a10 :: a11 :: a12 :: a13 :: a14 :: a15 :: a16 :: a17 :: a18 :: a19 :: a20 :: a21 :: x9 :: L9) k9 := qLet_iff.mpr h
theorem q_let23 (h : k9 (a0 :: a1 :: a2 :: a3 :: a4 :: a5 :: a6 :: a7 :: a8 :: a9 :: a10 :: a11 :: a12 :: a13 :: a14 :: a15 :: a16 :: a17 :: a18 :: a19 :: a20 :: a21 :: a22 :: w9 :: L9)) : qLet 23 w9 (a0 :: a1 :: a2 :: a3 :: a4 :: a5 :: a6 :: a7 :: a8 :: a9 :: a10 :: a11 :: a12 :: a13 :: a14 :: a15 :: a16 :: a17 :: a18 :: a19 :: a20 :: a21 :: a22 :: x9 :: L9) k9 := qLet_iff.mpr h
theorem q_let24 (h : k9 (a0 :: a1 :: a2 :: a3 :: a4 :: a5 :: a6 :: a7 :: a8 :: a9 :: a10 :: a11 :: a12 :: a13 :: a14 :: a15 :: a16 :: a17 :: a18 :: a19 :: a20 :: a21 :: a22 :: a23 :: w9 :: L9)) : qLet 24 w9 (a0 :: a1 :: a2 :: a3 :: a4 :: a5 :: a6 :: a7 :: a8 :: a9 :: a10 :: a11 :: a12 :: a13 :: a14 :: a15 :: a16 :: a17 :: a18 :: a19 :: a20 :: a21 :: a22 :: a23 :: x9 :: L9) k9 := qLet_iff.mpr h
theorem q_let25 (h : k9 (a0 :: a1 :: a2 :: a3 :: a4 :: a5 :: a6 :: a7 :: a8 :: a9 :: a10 :: a11 :: a12 :: a13 :: a14 :: a15 :: a16 :: a17 :: a18 :: a19 :: a20 :: a21 :: a22 :: a23 :: a24 :: w9 :: L9)) : qLet 25 w9 (a0 :: a1 :: a2 :: a3 :: a4 :: a5 :: a6 :: a7 :: a8 :: a9 :: a10 :: a11 :: a12 :: a13 :: a14 :: a15 :: a16 :: a17 :: a18 :: a19 :: a20 :: a21 :: a22 :: a23 :: a24 :: x9 :: L9) k9 := qLet_iff.mpr h
theorem q_let26 (h : k9 (a0 :: a1 :: a2 :: a3 :: a4 :: a5 :: a6 :: a7 :: a8 :: a9 :: a10 :: a11 :: a12 :: a13 :: a14 :: a15 :: a16 :: a17 :: a18 :: a19 :: a20 :: a21 :: a22 :: a23 :: a24 :: a25 :: w9 :: L9)) : qLet 26 w9 (a0 :: a1 :: a2 :: a3 :: a4 :: a5 :: a6 :: a7 :: a8 :: a9 :: a10 :: a11 :: a12 :: a13 :: a14 :: a15 :: a16 :: a17 :: a18 :: a19 :: a20 :: a21 :: a22 :: a23 :: a24 :: a25 :: x9 :: L9) k9 := qLet_iff.mpr h
theorem q_let27 (h : k9 (a0 :: a1 :: a2 :: a3 :: a4 :: a5 :: a6 :: a7 :: a8 :: a9 :: a10 :: a11 :: a12 :: a13 :: a14 :: a15 :: a16 :: a17 :: a18 :: a19 :: a20 :: a21 :: a22 :: a23 :: a24 :: a25 :: a26 :: w9 :: L9)) : qLet 27 w9 (a0 :: a1 :: a2 :: a3 :: a4 :: a5 :: a6 :: a7 :: a8 :: a9 :: a10 :: a11 :: a12 :: a13 :: a14 :: a15 :: a16 :: a17 :: a18 :: a19 :: a20 :: a21 :: a22 :: a23 :: a24 :: a25 :: a26 :: x9 :: L9) k9 := qLet_iff.mpr h
theorem q_let28 (h : k9 (a0 :: a1 :: a2 :: a3 :: a4 :: a5 :: a6 :: a7 :: a8 :: a9 :: a10 :: a11 :: a12 :: a13 :: a14 :: a15 :: a16 :: a17 :: a18 :: a19 :: a20 :: a21 :: a22 :: a23 :: a24 :: a25 :: a26 :: a27 :: w9 :: L9)) : qLet 28 w9 (a0 :: a1 :: a2 :: a3 :: a4 :: a5 :: a6 :: a7 :: a8 :: a9 :: a10 :: a11 :: a12 :: a13 :: a14 :: a15 :: a16 :: a17 :: a18 :: a19 :: a20 :: a21 :: a22 :: a23 :: a24 :: a25 :: a26 :: a27 :: x9 :: L9) k9 := qLet_iff.mpr h
theorem q_let29 (h : k9 (a0 :: a1 :: a2 :: a3 :: a4 :: a5 :: a6 :: a7 :: a8 :: a9 :: a10 :: a11 :: a12 :: a13 :: a14 :: a15 :: a16 :: a17 :: a18 :: a19 :: a20 :: a21 :: a22 :: a23 :: a24 :: a25 :: a26 :: a27 :: a28 :: w9 :: L9)) : qLet 29 w9 (a0 :: a1 :: a2 :: a3 :: a4 :: a5 :: a6 :: a7 :: a8 :: a9 :: a10 :: a11 :: a12 :: a13 :: a14 :: a15 :: a16 :: a17 :: a18 :: a19 :: a20 :: a21 :: a22 :: a23 :: a24 :: a25 :: a26 :: a27 :: a28 :: x9 :: L9) k9 := qLet_iff.mpr h
theorem q_let30 (h : k9 (a0 :: a1 :: a2 :: a3 :: a4 :: a5 :: a6 :: a7 :: a8 :: a9 :: a10 :: a11 :: a12 :: a13 :: a14 :: a15 :: a16 :: a17 :: a18 :: a19 :: a20 :: a21 :: a22 :: a23 :: a24 :: a25 :: a26 :: a27 :: a28 :: a29 :: w9 :: L9)) : qLet 30 w9 (a0 :: a1 :: a2 :: a3 :: a4 :: a5 :: a6 :: a7 :: a8 :: a9 :: a10 :: a11 :: a12 :: a13 :: a14 :: a15 :: a16 :: a17 :: a18 :: a19 :: a20 :: a21 :: a22 :: a23 :: a24 :: a25 :: a26 :: a27 :: a28 :: a29 :: x9 :: L9) k9 := qLet_iff.mpr h
theorem q_let31 (h : k9 (a0 :: a1 :: a2 :: a3 :: a4 :: a5 :: a6 :: a7 :: a8 :: a9 :: a10 :: a11 :: a12 :: a13 :: a14 :: a15 :: a16 :: a17 :: a18 :: a19 :: a20 :: a21 :: a22 :: a23 :: a24 :: a25 :: a26 :: a27 :: a28 :: a29 :: a30 :: w9 :: L9)) : qLet 31 w9 (a0 :: a1 :: a2 :: a3 :: a4 :: a5 :: a6 :: a7 :: a8 :: a9 :: a10 :: a11 :: a12 :: a13 :: a14 :: a15 :: a16 :: a17 :: a18 :: a19 :: a20 :: a21 :: a22 :: a23 :: a24 :: a25 :: a26 :: a27 :: a28 :: a29 :: a30 :: x9 :: L9) k9 := qLet_iff.mpr h
theorem q_let32 (h : k9 (a0 :: a1 :: a2 :: a3 :: a4 :: a5 :: a6 :: a7 :: a8 :: a9 :: a10 :: a11 :: a12 :: a13 :: a14 :: a15 :: a16 :: a17 :: a18 :: a19 :: a20 :: a21 :: a22 :: a23 :: a24 :: a25 :: a26 :: a27 :: a28 :: a29 :: a30 :: a31 :: w9 :: L9)) : qLet 32 w9 (a0 :: a1 :: a2 :: a3 :: a4 :: a5 :: a6 :: a7 :: a8 :: a9 :: a10 :: a11 :: a12 :: a13 :: a14 :: a15 :: a16 :: a17 :: a18 :: a19 :: a20 :: a21 :: a22 :: a23 :: a24 :: a25 :: a26 :: a27 :: a28 :: a29 :: a30 :: a31 :: x9 :: L9) k9 := qLet_iff.mpr h
theorem q_let33 (h : k9 (a0 :: a1 :: a2 :: a3 :: a4 :: a5 :: a6 :: a7 :: a8 :: a9 :: a10 :: a11 :: a12 :: a13 :: a14 :: a15 :: a16 :: a17 :: a18 :: a19 :: a20 :: a21 :: a22 :: a23 :: a24 :: a25 :: a26 :: a27 :: a28 :: a29 :: a30 :: a31 :: a32 :: w9 :: L9)) : qLet 33 w9 (a0 :: a1 :: a2 :: a3 :: a4 :: a5 :: a6 :: a7 :: a8 :: a9 :: a10 :: a11 :: a12 :: a13 :: a14 :: a15 :: a16 :: a17 :: a18 :: a19 :: a20 :: a21 :: a22 :: a23 :: a24 :: a25 :: a26 :: a27 :: a28 :: a29 :: a30 :: a31 :: a32 :: x9 :: L9) k9 := qLet_iff.mpr h
theorem q_let34 (h : k9 (a0 :: a1 :: a2 :: a3 :: a4 :: a5 :: a6 :: a7 :: a8 :: a9 :: a10 :: a11 :: a12 :: a13 :: a14 :: a15 :: a16 :: a17 :: a18 :: a19 :: a20 :: a21 :: a22 :: a23 :: a24 :: a25 :: a26 :: a27 :: a28 :: a29 :: a30 :: a31 :: a32 :: a33 :: w9 :: L9)) : qLet 34 w9 (a0 :: a1 :: a2 :: a3 :: a4 :: a5 :: a6 :: a7 :: a8 :: a9 :: a10 :: a11 :: a12 :: a13 :: a14 :: a15 :: a16 :: a17 :: a18 :: a19 :: a20 :: a21 :: a22 :: a23 :: a24 :: a25 :: a26 :: a27 :: a28 :: a29 :: a30 :: a31 :: a32 :: a33 :: x9 :: L9) k9 := qLet_iff.mpr h
theorem q_let35 (h : k9 (a0 :: a1 :: a2 :: a3 :: a4 :: a5 :: a6 :: a7 :: a8 :: a9 :: a10 :: a11 :: a12 :: a13 :: a14 :: a15 :: a16 :: a17 :: a18 :: a19 :: a20 :: a21 :: a22 :: a23 :: a24 :: a25 :: a26 :: a27 :: a28 :: a29 :: a30 :: a31 :: a32 :: a33 :: a34 :: w9 :: L9)) : qLet 35 w9 (a0 :: a1 :: a2 :: a3 :: a4 :: a5 :: a6 :: a7 :: a8 :: a9 :: a10 :: a11 :: a12 :: a13 :: a14 :: a15 :: a16 :: a17 :: a18 :: a19 :: a20 :: a21 :: a22 :: a23 :: a24 :: a25 :: a26 :: a27 :: a28 :: a29 :: a30 :: a31 :: a32 :: a33 :: a34 :: x9 :: L9) k9 := qLet_iff.mpr h
theorem q_let36 (h : k9 (a0 :: a1 :: a2 :: a3 :: a4 :: a5 :: a6 :: a7 :: a8 :: a9 :: a10 :: a11 :: a12 :: a13 :: a14 :: a15 :: a16 :: a17 :: a18 :: a19 :: a20 :: a21 :: a22 :: a23 :: a24 :: a25 :: a26 :: a27 :: a28 :: a29 :: a30 :: a31 :: a32 :: a33 :: a34 :: a35 :: w9 :: L9)) : qLet 36 w9 (a0 :: a1 :: a2 :: a3 :: a4 :: a5 :: a6 :: a7 :: a8 :: a9 :: a10 :: a11 :: a12 :: a13 :: a14 :: a15 :: a16 :: a17 :: a18 :: a19 :: a20 :: a21 :: a22 :: a23 :: a24 :: a25 :: a26 :: a27 :: a28 :: a29 :: a30 :: a31 :: a32 :: a33 :: a34 :: a35 :: x9 :: L9) k9 := qLet_iff.mpr h
theorem q_let37 (h : k9 (a0 :: a1 :: a2 :: a3 :: a4 :: a5 :: a6 :: a7 :: a8 :: a9 :: a10 :: a11 :: a12 :: a13 :: a14 :: a15 :: a16 :: a17 :: a18 :: a19 :: a20 :: a21 :: a22 :: a23 :: a24 :: a25 :: a26 :: a27 :: a28 :: a29 :: a30 :: a31 :: a32 :: a33 :: a34 :: a35 :: a36 :: w9 :: L9)) : qLet 37 w9 (a0 :: a1 :: a2 :: a3 :: a4 :: a5 :: a6 :: a7 :: a8 :: a9 :: a10 :: a11 :: a12 :: a13 :: a14 :: a15 :: a16 :: a17 :: a18 :: a19 :: a20 :: a21 :: a22 :: a23 :: a24 :: a25 :: a26 :: a27 :: a28 :: a29 :: a30 :: a31 :: a32 :: a33 :: a34 :: a35 :: a36 :: x9 :: L9) k9 := qLet_iff.mpr h
theorem q_let38 (h : k9 (a0 :: a1 :: a2 :: a3 :: a4 :: a5 :: a6 :: a7 :: a8 :: a9 :: a10 :: a11 :: a12 :: a13 :: a14 :: a15 :: a16 :: a17 :: a18 :: a19 :: a20 :: a21 :: a22 :: a23 :: a24 :: a25 :: a26 :: a27 :: a28 :: a29 :: a30 :: a31 :: a32 :: a33 :: a34 :: a35 :: a36 :: a37 :: w9 :: L9)) : qLet 38 w9 (a0 :: a1 :: a2 :: a3 :: a4 :: a5 :: a6 :: a7 :: a8 :: a9 :: a10 :: a11 :: a12 :: a13 :: a14 :: a15 :: a16 :: a17 :: a18 :: a19 :: a20 :: a21 :: a22 :: a23 :: a24 :: a25 :: a26 :: a27 :: a28 :: a29 :: a30 :: a31 :: a32 :: a33 :: a34 :: a35 :: a36 :: a37 :: x9 :: L9) k9 := qLet_iff.mpr h
theorem q_let39 (h : k9 (a0 :: a1 :: a2 :: a3 :: a4 :: a5 :: a6 :: a7 :: a8 :: a9 :: a10 :: a11 :: a12 :: a13 :: a14 :: a15 :: a16 :: a17 :: a18 :: a19 :: a20 :: a21 :: a22 :: a23 :: a24 :: a25 :: a26 :: a27 :: a28 :: a29 :: a30 :: a31 :: a32 :: a33 :: a34 :: a35 :: a36 :: a37 :: a38 :: w9 :: L9)) : qLet 39 w9 (a0 :: a1 :: a2 :: a3 :: a4 :: a5 :: a6 :: a7 :: a8 :: a9 :: a10 :: a11 :: a12 :: a13 :: a14 :: a15 :: a16 :: a17 :: a18 :: a19 :: a20 :: a21 :: a22 :: a23 :: a24 :: a25 :: a26 :: a27 :: a28 :: a29 :: a30 :: a31 :: a32 :: a33 :: a34 :: a35 :: a36 :: a37 :: a38 :: x9 :: L9) k9 := qLet_iff.mpr h
end
/-! over a written list: turn by turn -/
def FlU (G : Store → Prop) (g : ZTG) (tb : ZS) (D : ZEnds) : List W → Loc' → Store → Prop
  | [], L, S => G S ∧ D.nx L S
  | w :: ws, L, S => G S ∧ g w L S fun L' S' => tb ⟨FlU G g tb D ws, D.rt, D.nx, FlU G g tb D ws⟩ L' S'
theorem forU {its : List W} {G : Store → Prop} {g : ZTG} {tb : ZS} {D : ZEnds} {L : Loc'} {S : Store} (h : FlU G g tb D its L S) : FlEnd ⟨its, G⟩ g tb D L S := by
  unfold FlEnd
  refine ⟨?_⟩
  refine ⟨fun i L S => FlU G g tb D (its.drop i) L S, h, fun i w L S e p => ?_, fun L S p => ?_⟩
  · have e1 : its[i]? = some w := e
    obtain ⟨hi, e2⟩ := List.getElem?_eq_some_iff.mp e1
    replace p : FlU G g tb D (its.drop i) L S := p
    rw [List.drop_eq_getElem_cons hi, e2] at p
    exact p
  · replace p : FlU G g tb D (its.drop its.length) L S := p
    rw [List.drop_length] at p
    exact p
def LcU (G : Store → Prop) (g : ZTG) (tt : ZT) (te : ZE) (L : Loc') (n : Nat) (K : WK) : List W → List W → Store → Prop
  | [], _, S2 => G S2 ∧ K (.ref n) S2
  | w :: ws, acc, S2 => G S2 ∧ S2[n]? = some (.lst acc) ∧ g w L S2 fun L' S3 => tt L' S3 fun b S4 => qIf b (te L' S4 fun y S5 => qPush n acc y S5 (LcU G g tt te L n K ws)) (LcU G g tt te L n K ws acc S4)
theorem lcU {its : List W} {G : Store → Prop} {g : ZTG} {tt : ZT} {te : ZE} {vs : List Nat} {L : Loc'} {S1 : Store} {K : WK} (h : qWipe L vs fun L0 => LcU G g tt te L0 S1.length K its [] (S1 ++ [.lst []])) : LcEnd ⟨its, G⟩ g tt te vs L S1 K := by
  unfold LcEnd
  refine ⟨?_⟩
  replace h := qWipe_eq.mp h
  refine ⟨fun i acc S => LcU G g tt te (wipeL L vs) S1.length K (its.drop i) acc S, h, fun i acc w S2 e p => ?_, fun acc S p => ?_⟩
  · have e1 : its[i]? = some w := e
    obtain ⟨hi, e2⟩ := List.getElem?_eq_some_iff.mp e1
    replace p : LcU G g tt te (wipeL L vs) S1.length K (its.drop i) acc S2 := p
    rw [List.drop_eq_getElem_cons hi, e2] at p
    obtain ⟨p1, p2, p3⟩ := p
    refine ⟨p1, p2, ?_⟩
    exact p3
  · replace p : LcU G g tt te (wipeL L vs) S1.length K (its.drop its.length) acc S := p
    rw [List.drop_length] at p
    exact p
theorem q_push0 {S T : Store} {acc : List W} {y : W} {KS : List W → Store → Prop} (hz : acc.length < sizeLine) (h : KS (acc ++ [y]) (S ++ .lst (acc ++ [y]) :: T)) : qPush S.length acc y (S ++ .lst acc :: T) KS := by
  unfold qPush
  refine ⟨?_⟩
  exact ⟨by rw [app_get0]; rfl, hz, by rw [app_set0]; exact h⟩
theorem q_push {S : Store} {n : Nat} {acc : List W} {y : W} {KS : List W → Store → Prop} (e : S[n]? = some (.lst acc)) (hz : acc.length < sizeLine) (h : KS (acc ++ [y]) (S.set n (.lst (acc ++ [y])))) : qPush n acc y S KS := by
  unfold qPush
  refine ⟨?_⟩
  exact ⟨e, hz, h⟩
/-- a promise of nothing -/
theorem zfn_false {P : Program} {w : World} {K : PySem.W.Frag} {mg : Str → Option Value} {base : Heap} {TB : List Addr} {k : Nat} {f : Addr} {fd : FuncData} {ps : List Str} : ZFn P w K mg base TB k f fd ps fun _ _ _ => False :=
  ⟨fun _ _ _ _ ⟨h, _⟩ => h, fun _ _ _ _ _ _ _ _ _ _ _ _ _ ⟨_, _, _, _, _, _, _, h, _⟩ => h.elim⟩
theorem rangeW_inv {lo : Int} {n i : Nat} {w : W} (h : (rangeW lo n)[i]? = some w) : i < n ∧ w = .int (lo + (i : Nat)) := by
  have hi : i < n := by
    have := (List.getElem?_eq_some_iff.mp h).1
    rwa [rangeW_length] at this
  rw [rangeW_get hi] at h
  exact ⟨hi, (Option.some.inj h).symm⟩
theorem rangeW_inv0 {n i : Nat} {w : W} (h : (rangeW 0 n)[i]? = some w) : i < n ∧ w = .int (i : Nat) := by
  have := rangeW_inv h
  rwa [Int.zero_add] at this
/-! values without addresses -/
mutual
inductive Pl : Nat → W → Prop
  | non (d : Nat) : Pl d .non
  | bl (d : Nat) (b : Bool) : Pl d (.bl b)
  | int (d : Nat) (i : Int) : Pl d (.int i)
  | str (d : Nat) (s : Str) (h : PyData.strOk s = true) : Pl d (.str s)
  | tup {d : Nat} {xs : List W} (hz : xs.length ≤ 16777216) (h : Pls d xs) : Pl (d + 1) (.tup xs)
inductive Pls : Nat → List W → Prop
  | nil (d : Nat) : Pls d []
  | cons {d : Nat} {x : W} {xs : List W} (h1 : Pl d x) (h2 : Pls d xs) : Pls d (x :: xs)
end
theorem Pls.get {d : Nat} {xs : List W} (h : Pls d xs) {k : Nat} {x : W} (e : xs[k]? = some x) : Pl d x := by
  induction xs generalizing k with
  | nil => cases e
  | cons y ys ih =>
    cases h with
    | cons h1 h2 =>
      cases k with
      | zero => cases e; exact h1
      | succ k => exact ih h2 e
theorem Pls.of {d : Nat} {xs : List W} (h : ∀ x ∈ xs, Pl d x) : Pls d xs := by
  induction xs with
  | nil => exact .nil d
  | cons y ys ih => exact .cons (h y (by simp)) (ih fun x hx => h x (by simp [hx]))
theorem Pl.mono {d e : Nat} {x : W} (h : Pl d x) (he : d ≤ e) : Pl e x := by
  revert he
  induction h using Pl.rec (motive_2 := fun d xs _ => ∀ e, d ≤ e → Pls e xs) generalizing e with
  | non => exact fun _ => .non _
  | bl => exact fun _ => .bl _ _
  | int => exact fun _ => .int _ _
  | str _ _ h => exact fun _ => .str _ _ h
  | tup hz _ ih =>
    intro he
    cases e with
    | zero => omega
    | succ e => exact .tup hz (ih e (by omega))
  | nil => exact .nil _
  | cons _ _ ih1 ih2 => rename_i e' he'; exact .cons (ih1 he') (ih2 e' he')
/-! values as data -/
mutual
def dat : W → PyData
  | .non => .none
  | .bl b => .bool b
  | .int i => .int i
  | .str s => .str s
  | .tup xs => .tuple (dats xs)
  | .ref _ => .none
  | .ty _ => .none
def dats : List W → List PyData
  | [] => []
  | x :: xs => dat x :: dats xs
end
theorem dats_map : ∀ xs : List W, dats xs = xs.map dat
  | [] => rfl
  | x :: xs => by rw [dats, dats_map xs]; rfl
mutual
theorem Pl.data {S : Store} : ∀ {d : Nat} {x : W}, Pl d x → DataOf S x (dat x) ∧ (dat x).canLay0 = true ∧ (dat x).depth ≤ d
  | _, _, .non _ => ⟨.non, rfl, Nat.zero_le _⟩
  | _, _, .bl _ b => ⟨.bl b, rfl, Nat.zero_le _⟩
  | _, _, .int _ i => ⟨.int i, rfl, Nat.zero_le _⟩
  | _, _, .str _ s h => ⟨.str s, by rw [dat, PyData.canLay0]; exact h, Nat.zero_le _⟩
  | _, _, .tup _ h => let h' := Pls.data (S := S) h; ⟨by rw [dat]; exact .tup h'.1, by rw [dat, PyData.canLay0]; exact h'.2.1, by rw [dat, PyData.depth]; have := h'.2.2; omega⟩
theorem Pls.data {S : Store} : ∀ {d : Nat} {xs : List W}, Pls d xs → DataAll S xs (dats xs) ∧ PyData.canLayAll0 (dats xs) = true ∧ PyData.depthAll (dats xs) ≤ d
  | _, _, .nil _ => ⟨.nil, rfl, Nat.zero_le _⟩
  | _, _, .cons h t => let h' := Pl.data (S := S) h; let t' := Pls.data (S := S) t; ⟨by rw [dats]; exact .cons h'.1 t'.1, by rw [dats, PyData.canLayAll0, h'.2.1, t'.2.1]; rfl, by rw [dats, PyData.depthAll]; have := h'.2.2; have := t'.2.2; omega⟩
end
theorem shaped_of {d : PyData} {n : Nat} (h1 : d.canLay0 = true) (h2 : d.depth ≤ n) (h3 : n ≤ 64) : SeqAt.shaped d = true := by
  unfold SeqAt.shaped
  rw [h1, decide_eq_true (by omega)]
  rfl
mutual
/-- values without truth values in them -/
inductive Pn : Nat → W → Prop
  | non (d : Nat) : Pn d .non
  | int (d : Nat) (i : Int) : Pn d (.int i)
  | str (d : Nat) (s : Str) (h : PyData.strOk s = true) : Pn d (.str s)
  | tup {d : Nat} {xs : List W} (hz : xs.length ≤ 16777216) (h : Pns d xs) : Pn (d + 1) (.tup xs)
inductive Pns : Nat → List W → Prop
  | nil (d : Nat) : Pns d []
  | cons {d : Nat} {x : W} {xs : List W} (h1 : Pn d x) (h2 : Pns d xs) : Pns d (x :: xs)
end
mutual
theorem Pn.pl : ∀ {d : Nat} {x : W}, Pn d x → Pl d x
  | _, _, .non _ => .non _
  | _, _, .int _ _ => .int _ _
  | _, _, .str _ _ h => .str _ _ h
  | _, _, .tup hz h => .tup hz (Pns.pl h)
theorem Pns.pl : ∀ {d : Nat} {xs : List W}, Pns d xs → Pls d xs
  | _, _, .nil _ => .nil _
  | _, _, .cons h t => .cons (Pn.pl h) (Pns.pl t)
end
theorem Pns.of {d : Nat} {xs : List W} (h : ∀ x ∈ xs, Pn d x) : Pns d xs := by
  induction xs with
  | nil => exact .nil d
  | cons y ys ih => exact .cons (h y (by simp)) (ih fun x hx => h x (by simp [hx]))
theorem Pns.mem {d : Nat} {xs : List W} (h : Pns d xs) {x : W} (hx : x ∈ xs) : Pn d x := by
  induction xs with
  | nil => cases hx
  | cons y ys ih =>
    cases h with
    | cons h1 h2 =>
      rcases List.mem_cons.mp hx with e | e
      · exact e ▸ h1
      · exact ih h2 e
mutual
theorem Pn.eqv : ∀ {d e : Nat} {x y : W}, Pn d x → Pn e y → (PyData.eqv (dat x) (dat y) = true ↔ x = y)
  | _, _, _, _, .non _, .non _ => by simp [dat, PyData.eqv]
  | _, _, _, _, .non _, .int _ _ => by simp [dat, PyData.eqv]
  | _, _, _, _, .non _, .str _ _ _ => by simp [dat, PyData.eqv]
  | _, _, _, _, .non _, .tup _ _ => by simp [dat, PyData.eqv]
  | _, _, _, _, .int _ _, .non _ => by simp [dat, PyData.eqv]
  | _, _, _, _, .int _ _, .int _ _ => by simp [dat, PyData.eqv]
  | _, _, _, _, .int _ _, .str _ _ _ => by simp [dat, PyData.eqv]
  | _, _, _, _, .int _ _, .tup _ _ => by simp [dat, PyData.eqv]
  | _, _, _, _, .str _ _ _, .non _ => by simp [dat, PyData.eqv]
  | _, _, _, _, .str _ _ _, .int _ _ => by simp [dat, PyData.eqv]
  | _, _, _, _, .str _ _ _, .str _ _ _ => by simp [dat, PyData.eqv]
  | _, _, _, _, .str _ _ _, .tup _ _ => by simp [dat, PyData.eqv]
  | _, _, _, _, .tup _ _, .non _ => by simp [dat, PyData.eqv]
  | _, _, _, _, .tup _ _, .int _ _ => by simp [dat, PyData.eqv]
  | _, _, _, _, .tup _ _, .str _ _ _ => by simp [dat, PyData.eqv]
  | _, _, _, _, .tup _ h, .tup _ h' => by rw [dat, dat, PyData.eqv, Pns.eqv h h']; simp
theorem Pns.eqv : ∀ {d e : Nat} {xs ys : List W}, Pns d xs → Pns e ys → (PyData.eqvAll (dats xs) (dats ys) = true ↔ xs = ys)
  | _, _, _, _, .nil _, .nil _ => by simp [dats, PyData.eqvAll]
  | _, _, _, _, .nil _, .cons _ _ => by simp [dats, PyData.eqvAll]
  | _, _, _, _, .cons _ _, .nil _ => by simp [dats, PyData.eqvAll]
  | _, _, _, _, .cons h t, .cons h' t' => by rw [dats, dats, PyData.eqvAll, Bool.and_eq_true, Pn.eqv h h', Pns.eqv t t']; simp
end
theorem bool_dec {b : Bool} {p : Prop} [Decidable p] (h : b = true ↔ p) : b = decide p := by
  cases b
  · exact (decide_eq_false fun hp => Bool.false_ne_true (h.mpr hp)).symm
  · exact (decide_eq_true (h.mp rfl)).symm
section
variable {S : Store} {K : WK} {x y : W} {xs ys : List W} {n m d e : Nat}
open Classical in
theorem q_eq_pn (hx : Pn d x) (hy : Pn e y) (h1 : d ≤ 64) (h2 : e ≤ 64) (h : K (.bl (decide (x = y))) S) : qEq false x y S K := by
  obtain ⟨a, b, c⟩ := hx.pl.data (S := S)
  obtain ⟨a', b', c'⟩ := hy.pl.data (S := S)
  exact qEq_scal a a' (shaped_of b c h1) (shaped_of b' c' h2) (bool_dec (hx.eqv hy)) (by rw [Bool.false_xor]; exact h)
open Classical in
theorem q_ne_pn (hx : Pn d x) (hy : Pn e y) (h1 : d ≤ 64) (h2 : e ≤ 64) (h : K (.bl (!decide (x = y))) S) : qEq true x y S K := by
  obtain ⟨a, b, c⟩ := hx.pl.data (S := S)
  obtain ⟨a', b', c'⟩ := hy.pl.data (S := S)
  exact qEq_scal a a' (shaped_of b c h1) (shaped_of b' c' h2) (bool_dec (hx.eqv hy)) (by rw [Bool.true_xor]; exact h)
theorem lst_data (hl : IsLst S n xs) (h : Pls d xs) (hd : d ≤ 63) : DataOf S (.ref n) (.list (dats xs)) ∧ SeqAt.shaped (.list (dats xs)) = true := by
  obtain ⟨a, b, c⟩ := h.data (S := S)
  exact ⟨.ref hl a, shaped_of (n := d + 1) (by rw [PyData.canLay0]; exact b) (by rw [PyData.depth]; omega) (by omega)⟩
open Classical in
theorem q_eq_lpn (hx : IsLst S n xs) (hy : IsLst S m ys) (h1 : Pns d xs) (h2 : Pns e ys) (h3 : d ≤ 63) (h4 : e ≤ 63) (h : K (.bl (decide (xs = ys))) S) : qEq false (.ref n) (.ref m) S K := by
  obtain ⟨a, b⟩ := lst_data hx h1.pl h3
  obtain ⟨a', b'⟩ := lst_data hy h2.pl h4
  exact qEq_scal (b := decide (xs = ys)) a a' b b' (by rw [PyData.eqv]; exact bool_dec (h1.eqv h2)) (by rw [Bool.false_xor]; exact h)
open Classical in
theorem q_ne_lpn (hx : IsLst S n xs) (hy : IsLst S m ys) (h1 : Pns d xs) (h2 : Pns e ys) (h3 : d ≤ 63) (h4 : e ≤ 63) (h : K (.bl (!decide (xs = ys))) S) : qEq true (.ref n) (.ref m) S K := by
  obtain ⟨a, b⟩ := lst_data hx h1.pl h3
  obtain ⟨a', b'⟩ := lst_data hy h2.pl h4
  exact qEq_scal (b := decide (xs = ys)) a a' b b' (by rw [PyData.eqv]; exact bool_dec (h1.eqv h2)) (by rw [Bool.true_xor]; exact h)
theorem any_mem (hx : Pn d x) (hy : Pns e ys) [Decidable (x ∈ ys)] : ((dats ys).any fun z => PyData.eqv z (dat x)) = decide (x ∈ ys) := bool_dec (by
  rw [dats_map, List.any_map, List.any_eq_true]
  constructor
  · rintro ⟨z, hz, hq⟩
    rw [← ((hy.mem hz).eqv hx).mp hq]
    exact hz
  · intro h
    exact ⟨x, h, (hx.eqv hx).mpr rfl⟩)
theorem q_in {neg : Bool} [Decidable (x ∈ ys)] (hd : DataOf S y (.list (dats ys)) ∨ DataOf S y (.tuple (dats ys))) (hx : Pn d x) (hy : Pns e ys) (h1 : d ≤ 64) (h2 : e ≤ 63) (h : K (.bl (neg ^^ decide (x ∈ ys))) S) : qIn neg x y S K := by
  obtain ⟨a, b, c⟩ := hx.pl.data (S := S)
  obtain ⟨_, b', c'⟩ := hy.pl.data (S := S)
  unfold qIn
  exact ⟨.inl ⟨_, _, a, hd, shaped_of b c h1, shaped_of (n := e + 1) (by rw [PyData.canLay0]; exact b') (by rw [PyData.depth]; omega) (by omega), by rw [any_mem hx hy]; exact h⟩⟩
open Classical in
theorem q_in_l (hl : IsLst S n ys) (hx : Pn d x) (hy : Pns e ys) (h1 : d ≤ 64) (h2 : e ≤ 63) (h : K (.bl (decide (x ∈ ys))) S) : qIn false x (.ref n) S K :=
  q_in (.inl (.ref hl hy.pl.data.1)) hx hy h1 h2 (by rw [Bool.false_xor]; exact h)
open Classical in
theorem q_in_t (hx : Pn d x) (hy : Pns e ys) (h1 : d ≤ 64) (h2 : e ≤ 63) (h : K (.bl (decide (x ∈ ys))) S) : qIn false x (.tup ys) S K :=
  q_in (.inr (.tup hy.pl.data.1)) hx hy h1 h2 (by rw [Bool.false_xor]; exact h)
open Classical in
theorem q_notin_l (hl : IsLst S n ys) (hx : Pn d x) (hy : Pns e ys) (h1 : d ≤ 64) (h2 : e ≤ 63) (h : K (.bl (!decide (x ∈ ys))) S) : qIn true x (.ref n) S K :=
  q_in (.inl (.ref hl hy.pl.data.1)) hx hy h1 h2 (by rw [Bool.true_xor]; exact h)
open Classical in
theorem q_notin_t (hx : Pn d x) (hy : Pns e ys) (h1 : d ≤ 64) (h2 : e ≤ 63) (h : K (.bl (!decide (x ∈ ys))) S) : qIn true x (.tup ys) S K :=
  q_in (.inr (.tup hy.pl.data.1)) hx hy h1 h2 (by rw [Bool.true_xor]; exact h)
theorem q_index {j : Nat} (hl : IsLst S n ys) (hx : Pn d x) (hy : Pns e ys) (h1 : d ≤ 64) (h2 : e ≤ 63) (hj : ys[j]? = some x) (hm : ∀ m, m < j → ys[m]? ≠ some x) (h : K (.int (j : Nat)) S) : qIndex (.ref n) [x] S K := by
  obtain ⟨a, b, c⟩ := hx.pl.data (S := S)
  obtain ⟨a', b'⟩ := lst_data hl hy.pl h2
  have e1 : (dats ys)[j]? = some (dat x) := by rw [dats_map, List.getElem?_map, hj]; rfl
  unfold qIndex
  refine ⟨⟨_, _, j, _, a', a, b', shaped_of b c h1, e1, (hx.eqv hx).mpr rfl, fun m z' hmj hz => ?_, h⟩⟩
  rw [dats_map, List.getElem?_map, Option.map_eq_some_iff] at hz
  obtain ⟨z, hz, rfl⟩ := hz
  cases hq : PyData.eqv (dat z) (dat x)
  · rfl
  · have := ((hy.mem (List.mem_of_getElem? hz)).eqv hx).mp hq
    subst this
    exact (hm m hmj hz).elim
end
section
variable {L : Loc'} {S1 : Store} {K : WK} {te : ZE} {tt : ZT} {g : ZTG} {vs : List Nat} {its : List W} {G : Store → Prop}
theorem lcMap (f : W → W) (hG : ∀ S, Ext S1 S → G S) (hsz : its.length ≤ sizeLine)
    (turn : ∀ (i : Nat) (w : W) (S2 : Store) (Kt : WK) (Kf : Store → Prop), its[i]? = some w → Ext S1 S2 → (∀ S5, Ext S2 S5 → Kt (f w) S5) → qWipe L vs fun L0 => g w L0 S2 fun L' S3 => tt L' S3 fun b S4 => qIf b (te L' S4 Kt) (Kf S4))
    (done : ∀ S2, Ext S1 S2 → S2[S1.length]? = some (.lst (its.map f)) → K (.ref S1.length) S2) : LcEnd ⟨its, G⟩ g tt te vs L S1 K :=
  lcF (fun w => some (f w)) hG hsz (fun i w S2 Kt Kf hw k hK _ => turn i w S2 Kt Kf hw k fun S5 k5 => hK _ _ rfl k5) fun S2 k h => done S2 k (by rw [h]; congr 2; exact (List.filterMap_eq_map (f := f) ▸ rfl))
end
/-- over a range, a pure element told by its number, no test -/
theorem lcMap2 {L : Loc'} {S1 : Store} {K : WK} {te : ZE} {g : ZTG} {vs : List Nat} {m : Nat} (f : Nat → W) (hsz : (rangeW 0 m).length ≤ sizeLine) (turn : ∀ (i : Nat) (S2 : Store) (Kt : WK), i < m → Ext S1 S2 → (∀ S5, Ext S2 S5 → Kt (f i) S5) → qWipe L vs fun L0 => g (.int (i : Nat)) L0 S2 fun L' S3 => te L' S3 Kt)
    (done : ∀ S2, Ext S1 S2 → S2[S1.length]? = some (.lst ((List.range m).map f)) → K (.ref S1.length) S2) : LcEnd ⟨rangeW 0 m, fun _ => True⟩ g (fun _ S K => K true S) te vs L S1 K :=
  lcM (fun i _ => f i) (fun _ _ => trivial) hsz (fun i w S2 Kt Kf hw k hK => by
    obtain ⟨hi, rfl⟩ := rangeW_inv0 hw
    have := turn i S2 Kt hi k hK
    simp only [qIf_t]
    exact this) fun S2 k h => done S2 k (by
      rw [h]
      congr 2
      apply List.ext_getElem?
      intro i
      rw [List.getElem?_mapIdx, List.getElem?_map]
      by_cases hi : i < m
      · rw [rangeW_get hi, List.getElem?_range hi]; rfl
      · rw [List.getElem?_eq_none (l := rangeW 0 m) (by rw [rangeW_length]; omega), List.getElem?_eq_none (l := List.range m) (by rw [List.length_range]; omega)]; rfl)
section
variable {S : Store} {K : WK} {n : Nat}
theorem s_sorted {ns : List Int} (e : IsLst S n (ns.map W.int)) (h : ∀ ns' : List Int, ns'.Perm ns → ns'.Pairwise (· ≤ ·) → K (.ref S.length) (S ++ [.lst (ns'.map W.int)])) : qSorted [.ref n] S K := by
  unfold qSorted
  exact ⟨⟨ns, e, h⟩⟩
end
end Z

set_option maxHeartbeats 4000000
/-! Z10: the helpers that twenty of the laws share: the flow of numbers, and the likeness of two values. -/
namespace FA
open PySem PySem.Spec PyProof.Rows L2 Z
local macro_rules | `(tactic| tb_start) => `(tactic| first | assumption | exact True.intro | exact ⟨_, _, rfl, by ke_read⟩ | ((with_reducible refine' MulOk.r ?s1 ?s2); (case s1 => (decide)); (case s2 => (decide))) | ((with_reducible refine' DivOk.any ?s1); (case s1 => (assumption))) | ((with_reducible refine' DivOk.small ?s1 ?s2); (case s1 => (decide)); (case s2 => (decide))) | ((with_reducible refine' MulOk.r ?s1 ?s2); (case s1 => (omega)); (case s2 => (omega))) | ((with_reducible refine' MulOk.l ?s1 ?s2); (case s1 => (omega)); (case s2 => (omega))) | ((with_reducible refine' DivOk.small ?s1 ?s2); (case s1 => (omega)); (case s2 => (omega))) | ((with_reducible refine' PowOk.lit ?s1 ?s2 ?s3); (case s1 => (decide)); (case s2 => (decide)); (case s3 => (decide))) | omega | ((with_reducible refine' s_sz ?s1); (case s1 => (first | omega | (simp only [List.length_append, List.length_cons, List.length_nil, List.length_map, List.length_set, List.length_take, List.length_drop, List.length_dropLast] <;> omega)))) | ((with_reducible refine' s_szl ?s1); (case s1 => (first | omega | (simp only [List.length_append, List.length_cons, List.length_nil, List.length_map, List.length_set, List.length_take, List.length_drop, List.length_dropLast] <;> omega)))) | ke_read | ked_read | decide)
local macro_rules | `(tactic| ke_reads) => `(tactic| first | assumption | exact Ne.symm (by assumption) | omega | (simp only [List.length_append, List.length_cons, List.length_nil, List.length_set] at * <;> omega))
local macro_rules | `(tactic| ked_reads) => `(tactic| first | assumption | ((with_reducible refine' lt_of_get ?s1); (case s1 => (ked_read))))
local macro_rules | `(tactic| ked_read) => `(tactic| first | assumption | ((with_reducible refine' List.getElem?_set_self ?s1); (case s1 => (ked_reads))) | ((with_reducible refine' set_ne' ?s1 ?s2); (case s1 => (ke_reads)); (case s2 => (ked_read))) | exact (app_get0 _ _).trans rfl | exact (app_get _ _ _).trans rfl | ((with_reducible refine' app_l ?s1); (case s1 => (ked_read))))
local macro_rules | `(tactic| ke_read) => `(tactic| first | assumption | (apply getL_of; assumption) | ((with_reducible refine' getL_set_self ?s1); (case s1 => (ked_reads))) | exact getL_app00 _ _ _ | exact getL_app1 _ _ _ _ | ((with_reducible refine' getL_set_ne' ?s1 ?s2); (case s1 => (ke_reads)); (case s2 => (ke_read))) | ((with_reducible refine' getL_app_l ?s1); (case s1 => (ke_read))) | exact (getL_app _ _ _).trans rfl)
local macro_rules | `(tactic| kqd_all) => `(tactic| first | assumption | (rw [atI_m1]; first | with_unfolding_all rfl | assumption) | (rw [atI_lit]; first | with_unfolding_all rfl | assumption) | (rw [atI_cast]; assumption) | exact atI_ints (by omega) (by simp only [List.length_map] at *; omega))
local macro_rules | `(tactic| kct_strs) => `(tactic| first | assumption | (rw [ixN_lit, if_pos (by simp)]; done))
local macro_rules | `(tactic| kp_flats) => `(tactic| first | with_reducible refine q_let0 ?_ | with_reducible refine q_let1 ?_ | with_reducible refine q_let2 ?_ | with_reducible refine q_let3 ?_ | with_reducible refine q_let4 ?_ | with_reducible refine q_let5 ?_ | with_reducible refine q_let6 ?_ | with_reducible refine q_let7 ?_ | with_reducible refine q_let8 ?_ | with_reducible refine q_let9 ?_ | with_reducible refine q_let10 ?_ | with_reducible refine q_let11 ?_ | with_reducible refine q_let12 ?_ | with_reducible refine q_let13 ?_ | with_reducible refine q_let14 ?_ | with_reducible refine q_let15 ?_ | with_reducible refine q_let16 ?_ | with_reducible refine q_let17 ?_ | with_reducible refine q_let18 ?_ | with_reducible refine q_let19 ?_ | with_reducible refine q_let20 ?_ | with_reducible refine q_let21 ?_ | with_reducible refine q_let22 ?_ | with_reducible refine q_let23 ?_ | with_reducible refine q_let24 ?_ | with_reducible refine q_let25 ?_ | with_reducible refine q_let26 ?_ | with_reducible refine q_let27 ?_ | with_reducible refine q_let28 ?_ | with_reducible refine q_let29 ?_ | with_reducible refine q_let30 ?_ | with_reducible refine q_let31 ?_ | with_reducible refine q_let32 ?_ | with_reducible refine q_let33 ?_ | with_reducible refine q_let34 ?_ | with_reducible refine q_let35 ?_ | with_reducible refine q_let36 ?_ | with_reducible refine q_let37 ?_ | with_reducible refine q_let38 ?_ | with_reducible refine q_let39 ?_)
local macro_rules | `(tactic| tb_rel) => `(tactic| first | ((with_reducible show qLet _ _ _ _); kp_flats) | ((with_reducible refine' i_dt ?s1 ?_); (case s1 => (first | assumption | rfl))) | ((with_reducible refine' i_df ?s1 ?_); (case s1 => (assumption))) | ((with_reducible refine' i_nf ?s1 ?_); (case s1 => (first | assumption | rfl))) | ((with_reducible refine' i_nt ?s1 ?_); (case s1 => (assumption))) | ((with_reducible refine' i_t ?s1 ?_); (case s1 => (with_unfolding_all rfl))) | ((with_reducible refine' i_f ?s1 ?_); (case s1 => (with_unfolding_all rfl))) | ((with_reducible refine' q_ix_tup ?s1 ?_); (case s1 => (kqd_all))) | ((with_reducible refine' q_ix_ref ?s1 ?s2 ?_); (case s1 => (ke_read)); (case s2 => (kqd_all))) | ((with_reducible refine' q_eq_int ?_)) | ((with_reducible refine' q_ne_int ?_)) | ((with_reducible refine' q_eq_str ?s1 ?s2 ?_); (case s1 => (first | assumption | decide +kernel)); (case s2 => (first | assumption | decide +kernel))) | ((with_reducible refine' q_ne_str ?s1 ?s2 ?_); (case s1 => (first | assumption | decide +kernel)); (case s2 => (first | assumption | decide +kernel))) | ((with_reducible refine' q_len_tup ?_)) | ((with_reducible refine' q_len_ref ?s1 ?_); (case s1 => (ke_read))) | ((with_reducible refine' s_isml ?s1 ?_); (case s1 => (ke_read))) | ((with_reducible refine' q_append2 ?s1 ?s2 ?_); (case s1 => (ked_reads)); (case s2 => (tb_start))) | ((with_reducible refine' q_append0 ?s1 ?_); (case s1 => (tb_start))) | ((with_reducible refine' q_append1 ?s1 ?_); (case s1 => (tb_start))) | ((with_reducible refine' q_append ?s1 ?s2 ?_); (case s1 => (ked_read)); (case s2 => (tb_start))) | ((with_reducible refine' q_cat ?s1 ?s2 ?s3 ?_); (case s1 => (ked_read)); (case s2 => (ked_read)); (case s3 => (tb_start))) | ((with_reducible refine' q_pop0 ?s1 ?_); (case s1 => (ked_read))) | ((with_reducible refine' q_setL2 ?s1 ?s2 ?_); (case s1 => (ked_reads)); (case s2 => (kct_strs))) | ((with_reducible refine' q_setL ?s1 ?s2 ?_); (case s1 => (ked_read)); (case s2 => (kct_strs))) | ((with_reducible refine' q_tup_tup ?_)) | ((with_reducible refine' q_tup_ref ?s1 ?_); (case s1 => (ke_read))) | ((with_reducible refine' q_list_tup ?_)) | ((with_reducible refine' q_list_ref ?s1 ?_); (case s1 => (ke_read))) | ((with_reducible refine' q_sl_tupE ?s1 ?_); (case s1 => (assumption))) | ((with_reducible refine' q_sl_refE ?s1 ?s2 ?_); (case s1 => (ke_read)); (case s2 => (assumption))) | ((with_reducible refine' q_sl_tup ?_)) | ((with_reducible refine' q_sl_ref ?s1 ?_); (case s1 => (ke_read))) | ((with_reducible refine' s_enumI_tup ?_)) | ((with_reducible refine' s_enumI_ref ?s1 ?_); (case s1 => (ke_read))) | ((with_reducible refine' s_seqI_tup ?_)) | ((with_reducible refine' s_seqI_ref ?s1 ?_); (case s1 => (ke_read))) | ((with_reducible refine' q_eq_pn (d := 8) (e := 8) ?s1 ?s2 ?s3 ?s4 ?_); (case s1 => (lsm_bools)); (case s2 => (lsm_bools)); (case s3 => (first | decide | omega)); (case s4 => (first | decide | omega))) | ((with_reducible refine' q_ne_pn (d := 8) (e := 8) ?s1 ?s2 ?s3 ?s4 ?_); (case s1 => (lsm_bools)); (case s2 => (lsm_bools)); (case s3 => (first | decide | omega)); (case s4 => (first | decide | omega))) | ((with_reducible refine' q_eq_lpn (d := 8) (e := 8) ?s1 ?s2 ?s3 ?s4 ?s5 ?s6 ?_); (case s1 => (ke_read)); (case s2 => (ke_read)); (case s3 => (lsm_bools)); (case s4 => (lsm_bools)); (case s5 => (first | decide | omega)); (case s6 => (first | decide | omega))) | ((with_reducible refine' q_ne_lpn (d := 8) (e := 8) ?s1 ?s2 ?s3 ?s4 ?s5 ?s6 ?_); (case s1 => (ke_read)); (case s2 => (ke_read)); (case s3 => (lsm_bools)); (case s4 => (lsm_bools)); (case s5 => (first | decide | omega)); (case s6 => (first | decide | omega))) | ((with_reducible refine' q_is_non ?_)) | ((with_reducible refine' q_isnot_non ?_)) | ((with_reducible refine' q_eq_bl ?_)) | ((with_reducible refine' q_ne_bl ?_)) | ((with_reducible refine' q_isi ?s1 ?s2 ?_); (case s1 => (with_unfolding_all rfl)); (case s2 => (with_unfolding_all rfl))) | ((with_reducible refine' q_in_l (d := 8) (e := 8) ?s1 ?s2 ?s3 ?s4 ?s5 ?_); (case s1 => (ke_read)); (case s2 => (lsm_bools)); (case s3 => (lsm_bools)); (case s4 => (first | decide | omega)); (case s5 => (first | decide | omega))) | ((with_reducible refine' q_in_t (d := 8) (e := 8) ?s1 ?s2 ?s3 ?s4 ?_); (case s1 => (lsm_bools)); (case s2 => (lsm_bools)); (case s3 => (first | decide | omega)); (case s4 => (first | decide | omega))) | ((with_reducible refine' q_notin_l (d := 8) (e := 8) ?s1 ?s2 ?s3 ?s4 ?s5 ?_); (case s1 => (ke_read)); (case s2 => (lsm_bools)); (case s3 => (lsm_bools)); (case s4 => (first | decide | omega)); (case s5 => (first | decide | omega))) | ((with_reducible refine' q_notin_t (d := 8) (e := 8) ?s1 ?s2 ?s3 ?s4 ?_); (case s1 => (lsm_bools)); (case s2 => (lsm_bools)); (case s3 => (first | decide | omega)); (case s4 => (first | decide | omega))) | ((with_reducible refine' q_push0 ?s1 ?_); (case s1 => (tb_start))) | ((with_reducible refine' q_push ?s1 ?s2 ?_); (case s1 => (ked_read)); (case s2 => (tb_start))) | ((with_reducible refine' And.intro ?s1 ?_); (case s1 => (tb_start))))
local macro_rules | `(tactic| kbo_bools) => `(tactic| first | with_reducible refine i_d (fun _ => ?_) (fun _ => ?_) | with_reducible refine i_n (fun _ => ?_) (fun _ => ?_))
local macro_rules | `(tactic| keq_rows) => `(tactic| ((conv => whnf); repeat (tb_rel; (conv => whnf))))
local macro_rules | `(tactic| k_upd) => `(tactic| (keq_rows; try (kbo_bools <;> k_upd)))
local macro_rules | `(tactic| kat_tups) => `(tactic| (simp only [startL, List.map_cons, List.map_nil, List.length_cons, List.length_nil, Nat.zero_add, Nat.reduceAdd, Nat.reduceSub, List.reduceReplicate, List.cons_append, List.nil_append]; keq_rows))
local macro_rules | `(tactic| k_updF) => `(tactic| first | assumption | exact Keep.refl _ _ | exact Keep.app _ _ _ | ((with_reducible refine' Keep.app_r ?s1); (case s1 => (k_updF))) | ((with_reducible refine' Keep.set_in ?s1 ?s2); (case s1 => ((simp only [List.mem_cons, true_or, or_true]))); (case s2 => (k_updF))) | ((with_reducible refine' Keep.set_new ?s1 ?s2); (case s1 => (first | omega | (simp only [List.length_append, List.length_cons, List.length_nil, List.length_set] at * <;> omega))); (case s2 => (k_updF))) | exact Ext.keep (by assumption) | ((with_reducible refine' Keep.trans ?a (by assumption)); (case a => (k_updF))) | ((with_reducible refine' Keep.trans ?a (Ext.keep (by assumption))); (case a => (k_updF))))
local macro_rules | `(tactic| lsm_bools) => `(tactic| first | assumption | exact Pl.int _ _ | exact Pn.int _ _ | ((with_reducible refine' Pl.str _ _ ?s1); (case s1 => (first | assumption | decide +kernel))) | ((with_reducible refine' Pn.str _ _ ?s1); (case s1 => (first | assumption | decide +kernel))) | exact Pn.non _ | exact Pl.non _ | exact Pl.bl _ _ | exact Pns.nil _ | exact Pls.nil _ | ((with_reducible refine' Pls.cons ?s1 ?s2); (case s1 => (lsm_bools)); (case s2 => (lsm_bools))) | ((with_reducible refine' Pns.cons ?s1 ?s2); (case s1 => (lsm_bools)); (case s2 => (lsm_bools))) | ((with_reducible refine' Pl.tup ?s1 ?s2); (case s1 => (first | omega | (simp only [List.length_append, List.length_cons, List.length_nil, List.length_map, List.length_set, List.length_take, List.length_drop, List.length_dropLast] <;> omega))); (case s2 => (lsm_bools))) | ((with_reducible refine' Pn.tup ?s1 ?s2); (case s1 => (first | omega | (simp only [List.length_append, List.length_cons, List.length_nil, List.length_map, List.length_set, List.length_take, List.length_drop, List.length_dropLast] <;> omega))); (case s2 => (lsm_bools))))
def t__law_mix : ZS :=
    (zSeq (zAsg (zOp qMod (zCall qInt (zCons (zOp qAdd (zOp qAdd (zOp qMul (zVar 0) (zC (.int 75403))) (zOp qMul (zVar 1) (zC (.int 50021)))) (zC (.int 877))) zNil)) (zC (.int 2147483629))) (zgName 2))
    (zSeq (zAsg (zOp qMod (zCall qInt (zCons (zOp qAdd (zOp qAdd (zOp qMul (zVar 2) (zVar 2)) (zOp qMul (zVar 1) (zC (.int 30011)))) (zOp qDiv (zVar 2) (zC (.int 11)))) zNil)) (zC (.int 2147483587))) (zgName 3))
    (zRet (zOp qMod (zCall qInt (zCons (zOp qAdd (zOp qAdd (zOp qMul (zVar 3) (zVar 3)) (zOp qDiv (zVar 3) (zC (.int 13)))) (zVar 1)) zNil)) (zC (.int 2147483563))))))
def t__law_flow (sp__law_mix : ZC) : ZS :=
    (zSeq (zAsg (zCall qLen (zCons (zVar 0) zNil)) (zgName 1))
    (zSeq (zFor (zSeqI (zSl (zVar 0) zNoPart (zPart (zC (.int 63))))) (zgName 2) (zAsg (zCallF 2 sp__law_mix (zCons (zOp qAdd (zVar 1) (zVar 2)) (zCons (zC (.int 3)) zNil))) (zgName 1)))
    (zRet (zLst (zCons (zSl (zVar 0) zNoPart (zPart (zC (.int 63)))) (zCons (zC (.int 0)) (zCons (zC (.int 0)) (zCons (zC (.int 0)) (zCons (zC (.int 0)) (zCons (zVar 1) zNil))))))))))
def t__law_draw (sp__law_mix : ZC) : ZS :=
    (zSeq (zAsg (zOp qAdd (zOp qIx (zVar 0) (zC (.int 4))) (zC (.int 1))) (zgSub (zVar 0) (zC (.int 4)) qSetL))
    (zSeq (zIfS (zAnd (zTb (zOp (qEq false) (zOp qIx (zVar 0) (zC (.int 3))) (zC (.int 0)))) (zTb (zOp qLt (zOp qIx (zVar 0) (zC (.int 1))) (zCall qLen (zCons (zOp qIx (zVar 0) (zC (.int 0))) zNil))))) (zSeq (zAsg (zCall qAbs (zCons (zCall qInt (zCons (zOp qIx (zOp qIx (zVar 0) (zC (.int 0))) (zOp qIx (zVar 0) (zC (.int 1)))) zNil)) zNil)) (zgName 2))
    (zSeq (zAsg (zOp qAdd (zOp qIx (zVar 0) (zC (.int 1))) (zC (.int 1))) (zgSub (zVar 0) (zC (.int 1)) qSetL))
    (zSeq (zIfS (zTb (zOp qLt (zVar 2) (zOp qPow (zC (.int 10)) (zC (.int 18))))) (zRet (zOp qMod (zCall qInt (zCons (zCallF 2 sp__law_mix (zCons (zVar 2) (zCons (zOp qIx (zVar 0) (zC (.int 4))) zNil))) zNil)) (zVar 1))) zNext)
    (zSeq (zAsg (zVar 2) (zgSub (zVar 0) (zC (.int 2)) qSetL))
    (zAsg (zC (.int 60)) (zgSub (zVar 0) (zC (.int 3)) qSetL)))))) zNext)
    (zSeq (zIfS (zTb (zOp (qEq false) (zOp qIx (zVar 0) (zC (.int 3))) (zC (.int 0)))) (zRet (zOp qMod (zCall qInt (zCons (zCallF 2 sp__law_mix (zCons (zOp qIx (zVar 0) (zC (.int 5))) (zCons (zOp qIx (zVar 0) (zC (.int 4))) zNil))) zNil)) (zVar 1))) zNext)
    (zSeq (zAsg (zOp qMod (zCall qInt (zCons (zOp qIx (zVar 0) (zC (.int 2))) zNil)) (zVar 1)) (zgName 3))
    (zSeq (zAsg (zOp qDiv (zOp qIx (zVar 0) (zC (.int 2))) (zVar 1)) (zgSub (zVar 0) (zC (.int 2)) qSetL))
    (zSeq (zAsg (zOp qMul (zOp qSub (zOp qIx (zVar 0) (zC (.int 3))) (zC (.int 1))) (zCall qInt (zCons (zOp qGt (zOp qIx (zVar 0) (zC (.int 2))) (zC (.int 0))) zNil))) (zgSub (zVar 0) (zC (.int 3)) qSetL))
    (zRet (zVar 3))))))))
def t__law_one (sp__law_draw : ZC) : ZS :=
    (zRet (zOp qIx (zVar 1) (zCallF 2 sp__law_draw (zCons (zVar 0) (zCons (zCall qLen (zCons (zVar 1) zNil)) zNil)))))
def t__law_same (sp__law_same : ZC) : ZS :=
    (zSeq (zIfS (zTru (zCall qIsi (zCons (zVar 1) (zCons (zC (.ty "tuple")) zNil)))) (zSeq (zIfS (zOr (zNot (zTru (zCall qIsi (zCons (zVar 0) (zCons (zC (.ty "tuple")) zNil))))) (zTb (zOp (qEq true) (zCall qLen (zCons (zVar 0) zNil)) (zCall qLen (zCons (zVar 1) zNil))))) (zRet (zC (.bl false))) zNext)
    (zRet (zOp (qEq false) (zCall qLen (zCons (zLc (zRngI (zCons (zCall qLen (zCons (zVar 1) zNil)) zNil)) (zgName 2) (zNot (zTru (zCallF 2 sp__law_same (zCons (zOp qIx (zVar 0) (zVar 2)) (zCons (zOp qIx (zVar 1) (zVar 2)) zNil))))) (zVar 2) [2]) zNil)) (zC (.int 0))))) zNext)
    (zSeq (zIfS (zTb (zOp (qIsN false) (zVar 1) (zC .non))) (zRet (zOp (qIsN false) (zVar 0) (zC .non))) zNext)
    (zSeq (zIfS (zTru (zCall qIsi (zCons (zVar 1) (zCons (zC (.ty "str")) zNil)))) (zRet (zAndV (zCall qIsi (zCons (zVar 0) (zCons (zC (.ty "str")) zNil))) (zOp (qEq false) (zVar 0) (zVar 1)))) zNext)
    (zSeq (zIfS (zTb (zOp (qEq true) (zCall qIsi (zCons (zVar 1) (zCons (zC (.ty "bool")) zNil))) (zCall qIsi (zCons (zVar 0) (zCons (zC (.ty "bool")) zNil))))) (zRet (zC (.bl false))) zNext)
    (zRet (zAndV (zCall qIsi (zCons (zVar 0) (zCons (zC (.ty "int")) zNil))) (zOp (qEq false) (zVar 0) (zVar 1))))))))
abbrev EndK (K : WK) : ZEnds := { nx := fun _ S' => K .non S', rt := K }
@[irreducible] def sp__law_mix : ZC := fun ws S K => ∃ c t, ws = [.int c, .int t] ∧ ∀ r, 0 ≤ r → r < 2147483563 → K (.int r) S
theorem u__law_mix (ws : List W) (S : Store) (K : WK) (h : sp__law_mix ws S K) (hl : ws.length = 2) : t__law_mix (EndK K) (startL 4 ws) S := by
  unfold sp__law_mix at h
  obtain ⟨c, t, rfl, h⟩ := h
  kat_tups
  exact h _ (Int.emod_nonneg _ (by decide)) (Int.emod_lt_of_pos _ (by decide))
theorem c__law_mix {c t : Int} {S : Store} {K : WK} (h : ∀ r, 0 ≤ r → r < 2147483563 → K (.int r) S) : sp__law_mix [.int c, .int t] S K := by unfold sp__law_mix; exact ⟨c, t, rfl, h⟩
def FlowOk (S : Store) (n m : Nat) : Prop := ∃ (cells : List Int) (p r l d seed : Int), S[n]? = some (.lst [.ref m, .int p, .int r, .int l, .int d, .int seed]) ∧ IsLst S m (cells.map W.int) ∧ m ≠ n ∧ 0 ≤ p
theorem flow_set {S : Store} {n m : Nat} {cells : List Int} {p r l d seed p' r' l' d' seed' : Int} (h1 : S[n]? = some (.lst [.ref m, .int p, .int r, .int l, .int d, .int seed])) (h2 : IsLst S m (cells.map W.int)) (h3 : m ≠ n) (h4 : 0 ≤ p') :
    FlowOk (S.set n (.lst [.ref m, .int p', .int r', .int l', .int d', .int seed'])) n m :=
  ⟨cells, p', r', l', d', seed', List.getElem?_set_self (lt_of_get h1), Keep.lst (ms := [n]) (Keep.set _ _ _) (by simpa using h3) h2, h3, h4⟩
@[irreducible] def sp__law_flow : ZC := fun ws S K => ∃ (s : Nat) (ns : List Int), ws = [.ref s] ∧ IsLst S s (ns.map W.int) ∧ ∀ n m S', Ext S S' → FlowOk S' n m → K (.ref n) S'
theorem cut_ints (ns : List Int) (lo hi : Option Int) : cut (ns.map W.int) lo hi = (cut ns lo hi).map W.int := by
  unfold cut; simp [List.map_take, List.map_drop]
theorem u__law_flow (ws : List W) (S : Store) (K : WK) (h : sp__law_flow ws S K) (hl : ws.length = 1) : t__law_flow sp__law_mix (EndK K) (startL 3 ws) S := by
  unfold sp__law_flow at h
  obtain ⟨s, ns, rfl, hs, h⟩ := h
  kat_tups
  rw [cut_ints]
  refine forI (fun i L S1 => ∃ (sd : Int) (x : Option W), L = [some (.ref s), some (.int sd), x] ∧ S1 = S ++ [.lst ((cut ns none (some 63)).map W.int)]) ⟨_, _, rfl, rfl⟩ ?_ ?_ ?_
  · rintro i L S1 ⟨sd, x, rfl, rfl⟩
    ke_read
  · rintro i w L S1 hw ⟨sd, x, rfl, rfl⟩
    rw [List.getElem?_map] at hw
    obtain ⟨c, hc, rfl⟩ := Option.map_eq_some_iff.mp hw
    keq_rows
    refine c__law_mix fun r h1 h2 => ?_
    keq_rows
    exact ⟨_, _, rfl, rfl⟩
  · rintro L S1 ⟨sd, x, rfl, rfl⟩
    have hs1 := Ext.lst (Keep.app [] S [.lst ((cut ns none (some 63)).map W.int)]) hs
    keq_rows
    have e := cut_ints ns none (some 63)
    rw [e]
    refine h _ _ _ (((Keep.app [] _ _).trans (Keep.app [] _ _)).trans (Keep.app [] _ _)) ⟨cut ns none (some 63), 0, 0, 0, 0, sd, (app_get0 _ _).trans rfl, ?_, ?_, Int.le_refl 0⟩
    · rw [List.append_assoc (S ++ _)]; exact getL_app00 _ _ _
    · simp
@[irreducible] def sp__law_draw : ZC := fun ws S K => ∃ n m many, ws = [.ref n, .int many] ∧ FlowOk S n m ∧ 0 < many ∧ many < 18446744073709551616 ∧ ∀ r S', 0 ≤ r → r < many → Keep [n] S S' → FlowOk S' n m → K (.int r) S'
theorem u__law_draw (ws : List W) (S : Store) (K : WK) (h : sp__law_draw ws S K) (hl : ws.length = 2) : t__law_draw sp__law_mix (EndK K) (startL 4 ws) S := by
  unfold sp__law_draw at h
  obtain ⟨n, m, many, rfl, ⟨cells, p, r, l, d, seed, h1, h2, h3, h4⟩, h5, h6, h⟩ := h
  kat_tups
  kbo_bools
  · keq_rows
    kbo_bools
    · keq_rows
      kbo_bools
      · keq_rows
        refine c__law_mix fun r _ _ => ?_
        keq_rows
        exact h _ _ (Int.emod_nonneg _ (by omega)) (Int.emod_lt_of_pos _ h5) (Keep.set _ _ _) (flow_set h1 h2 h3 (by omega))
      · keq_rows
        exact h _ _ (Int.emod_nonneg _ (by omega)) (Int.emod_lt_of_pos _ h5) (Keep.set _ _ _) (flow_set h1 h2 h3 (by omega))
    · keq_rows
      refine c__law_mix fun r _ _ => ?_
      keq_rows
      exact h _ _ (Int.emod_nonneg _ (by omega)) (Int.emod_lt_of_pos _ h5) (Keep.set _ _ _) (flow_set h1 h2 h3 (by omega))
  · keq_rows
    exact h _ _ (Int.emod_nonneg _ (by omega)) (Int.emod_lt_of_pos _ h5) (Keep.set _ _ _) (flow_set h1 h2 h3 (by omega))
theorem c__law_draw {n m : Nat} {many : Int} {S : Store} {K : WK} (h1 : FlowOk S n m) (h2 : 0 < many) (h3 : many < 18446744073709551616) (h : ∀ r S', 0 ≤ r → r < many → Keep [n] S S' → FlowOk S' n m → K (.int r) S') : sp__law_draw [.ref n, .int many] S K := by unfold sp__law_draw; exact ⟨n, m, many, rfl, h1, h2, h3, h⟩
/-- things[_law_draw(flow, len(things))] over a written tuple -/
@[irreducible] def sp__law_one : ZC := fun ws S K => ∃ n m xs, ws = [.ref n, .tup xs] ∧ FlowOk S n m ∧ 0 < xs.length ∧ xs.length < 1000000000 ∧ ∀ x S', x ∈ xs → Keep [n] S S' → FlowOk S' n m → K x S'
theorem u__law_one (ws : List W) (S : Store) (K : WK) (h : sp__law_one ws S K) (hl : ws.length = 2) : t__law_one sp__law_draw (EndK K) (startL 2 ws) S := by
  unfold sp__law_one at h
  obtain ⟨n, m, xs, rfl, h1, h2, h3, h⟩ := h
  kat_tups
  refine c__law_draw h1 (by omega) (by omega) fun r S' a b c d => ?_
  obtain ⟨k, rfl⟩ : ∃ k : Nat, r = (k : Int) := ⟨r.toNat, by omega⟩
  have h4 : k < xs.length := by omega
  have h5 : xs[k]? = some xs[k] := List.getElem?_eq_getElem h4
  keq_rows
  exact h _ _ (List.getElem_mem h4) c d
@[irreducible] def sp__law_same (d : Nat) : ZC := fun ws S K => ∃ x, ws = [x, x] ∧ Pl d x ∧ ∀ S', Ext S S' → K (.bl true) S'
theorem c__law_same {d : Nat} {x : W} {S : Store} {K : WK} (h1 : Pl d x) (h : ∀ S', Ext S S' → K (.bl true) S') : sp__law_same d [x, x] S K := by unfold sp__law_same; exact ⟨x, rfl, h1, h⟩
theorem u__law_same (d : Nat) (sp : ZC) (hs : ∀ (e : Nat), d = e + 1 → sp = sp__law_same e) (ws : List W) (S : Store) (K : WK) (h : sp__law_same d ws S K) (hl : ws.length = 2) : t__law_same sp (EndK K) (startL 3 ws) S := by
  unfold sp__law_same at h
  obtain ⟨x, rfl, hp, h⟩ := h
  cases hp with
  | non => kat_tups; exact h _ (Keep.refl _ _)
  | bl => kat_tups; simpa using h _ (Keep.refl _ _)
  | int => kat_tups; simpa using h _ (Keep.refl _ _)
  | str => kat_tups; simpa using h _ (Keep.refl _ _)
  | @tup d xs hz hp =>
    cases hs _ rfl
    kat_tups
    refine lcF (fun _ => none) (fun _ _ => trivial) (by rw [rangeW_length]; exact s_sz (by omega)) ?_ ?_
    · intro i w S2 Kt Kf hw k hK hK'
      obtain ⟨hi, rfl⟩ := rangeW_inv0 hw
      have e : xs[i]? = some xs[i] := List.getElem?_eq_getElem (by omega)
      keq_rows
      refine c__law_same (hp.get e) fun S' k' => ?_
      keq_rows
      exact hK' _ rfl k'
    · intro S2 k h2
      rw [show ∀ ys : List W, ys.filterMap (fun _ => (none : Option W)) = [] from fun ys => by induction ys with | nil => rfl | cons y ys ih => exact ih] at h2
      keq_rows
      exact h _ k
theorem c__law_sameE {d : Nat} {x y : W} {S : Store} {K : WK} (e : x = y) (h1 : Pl d x) (h : ∀ S', Ext S S' → K (.bl true) S') : sp__law_same d [x, y] S K := e ▸ c__law_same h1 h
theorem c__law_one {n m : Nat} {xs : List W} {S : Store} {K : WK} (h1 : FlowOk S n m) (h2 : 0 < xs.length) (h3 : xs.length < 1000000000) (h : ∀ x S', x ∈ xs → Keep [n] S S' → FlowOk S' n m → K x S') : sp__law_one [.ref n, .tup xs] S K := by unfold sp__law_one; exact ⟨n, m, xs, rfl, h1, h2, h3, h⟩
theorem c__law_flow {s : Nat} {ns : List Int} {S : Store} {K : WK} (h1 : IsLst S s (ns.map W.int)) (h : ∀ n m S', Ext S S' → FlowOk S' n m → K (.ref n) S') : sp__law_flow [.ref s] S K := by unfold sp__law_flow; exact ⟨s, ns, rfl, h1, h⟩
theorem FlowOk.lt {S : Store} {n m : Nat} (h : FlowOk S n m) : n < S.length ∧ m < S.length ∧ m ≠ n := by
  obtain ⟨cells, p, r, l, d, seed, h1, h2, h3, h4⟩ := h
  exact ⟨lt_of_get h1, (isL.mp h2).elim lt_of_get lt_of_get, h3⟩
theorem FlowOk.keep {ms : List Nat} {S S' : Store} {n m : Nat} (h : FlowOk S n m) (k : Keep ms S S') (hn : n ∉ ms) (hm : m ∉ ms) : FlowOk S' n m := by
  obtain ⟨cells, p, r, l, d, seed, h1, h2, h3, h4⟩ := h
  exact ⟨cells, p, r, l, d, seed, k _ _ hn h1, k.lst hm h2, h3, h4⟩
theorem FlowOk.ext {S S' : Store} {n m : Nat} (h : FlowOk S n m) (k : Ext S S') : FlowOk S' n m := h.keep k (by simp) (by simp)
/-- a list of drawn numbers -/
theorem lcDraw {n m : Nat} {many : Int} {its : List W} {G : Store → Prop} {g : ZTG} {tt : ZT} {te : ZE} {vs : List Nat} {L : Loc'} {S1 : Store} {K : WK} (hf : FlowOk S1 n m) (hG : ∀ S, Keep [n] S1 S → G S) (hsz : its.length ≤ sizeLine)
    (turn : ∀ (i : Nat) (w : W) (S2 : Store) (Kt : WK) (Kf : Store → Prop), its[i]? = some w → FlowOk S2 n m → Keep [n] S1 S2 → (∀ y S3, Keep [n] S2 S3 → FlowOk S3 n m → 0 ≤ y → y < many → Kt (.int y) S3) →
      qWipe L vs fun L0 => g w L0 S2 fun L' S3 => tt L' S3 fun b S4 => qIf b (te L' S4 Kt) (Kf S4))
    (done : ∀ (ns : List Int) S2, ns.length = its.length → (∀ y ∈ ns, 0 ≤ y ∧ y < many) → FlowOk S2 n m → Keep [n] S1 S2 → S2[S1.length]? = some (.lst (ns.map W.int)) → K (.ref S1.length) S2) : LcEnd ⟨its, G⟩ g tt te vs L S1 K := by
  obtain ⟨l1, l2, l3⟩ := hf.lt
  refine lcI [n] (fun S => FlowOk S n m) (fun i acc => ∃ ns : List Int, acc = ns.map W.int ∧ ns.length = i ∧ ∀ y ∈ ns, 0 ≤ y ∧ y < many) (by simp; omega) (by simp; omega) (fun S o h _ => ?_) (hf.ext (Keep.app _ _ _)) hG ⟨[], rfl, rfl, by simp⟩ ?_ ?_ ?_
  · obtain ⟨cells, p, r, l, d, seed, h1, h2, h3, h4⟩ := h
    exact ⟨cells, p, r, l, d, seed, by rw [List.getElem?_set_ne (by omega)]; exact h1, by unfold IsLst; rw [getL_set_ne (by omega)]; exact h2, h3, h4⟩
  · rintro i acc hi ⟨ns, rfl, hl, _⟩
    rw [List.length_map]
    omega
  · rintro i acc w S2 Kt Kf hw ⟨ns, rfl, hl, hy⟩ h2 h3 _ hK _
    refine turn i w S2 Kt Kf hw h2 h3 fun y S3 k3 f3 y1 y2 => hK _ _ k3 f3 ⟨ns ++ [y], by simp, by simp [hl], ?_⟩
    intro x hx
    rcases List.mem_append.mp hx with hx | hx
    · exact hy x hx
    · rw [List.mem_singleton.mp hx]; exact ⟨y1, y2⟩
  · rintro acc S2 ⟨ns, rfl, hl, hy⟩ h2 h3 h4
    exact done ns S2 hl hy h2 h3 h4
end FA

set_option maxHeartbeats 2000000
/-! Z11: what the module's top has written; a law's end. -/
namespace Z
open PySem PySem.Spec PyProof.Rows L2
structure DefAt (K : PySem.W.Frag) (x : Str) (st : Stmt) : Prop where
  ex : ∃ (f : Addr) (oc : Value) (od an : Option Addr) (osl : Array (Option Value)) (kV doc pm cdv ct : Value), PySem.W.nsIn K mainGlobals x = some (some (.ref f)) ∧
    K.lookup f = some ⟨oc, od, .func (PySem.W.fnOf x x (defArgs st) (defBody st) (defScope st) .none kV doc pm an cdv ct), osl⟩ ∧ PySem.W.codeIn K cdv x = true ∧ PySem.W.keepIn K (.ref f) = true
theorem defAt {K : PySem.W.Frag} {x : Str} {st : Stmt} {f : Addr} {oc : Value} {od an : Option Addr} {osl : Array (Option Value)} {kV doc pm cdv ct : Value} (a : PySem.W.nsIn K mainGlobals x = some (some (.ref f)))
    (l : K.lookup f = some ⟨oc, od, .func (PySem.W.fnOf x x (defArgs st) (defBody st) (defScope st) .none kV doc pm an cdv ct), osl⟩) (c : PySem.W.codeIn K cdv x = true) (k : PySem.W.keepIn K (.ref f) = true) : DefAt K x st :=
  ⟨f, oc, od, an, osl, kV, doc, pm, cdv, ct, a, l, c, k⟩
theorem DefAt.fn {K : PySem.W.Frag} {x : Str} {st : Stmt} {h : Heap} {mg : Str → Option Value} (d : DefAt K x st) (X : K.In h) (G : h.Ns mainGlobals mg) : ∃ (f : Addr) (fd : FuncData), Fun K x x st f fd ∧ mg x = some (.ref f) := by
  obtain ⟨f, oc, od, an, osl, kV, doc, pm, cdv, ct, a, l, c, k⟩ := d.ex
  exact ⟨f, _, fun_mk l c k, PySem.W.mg_of X G a⟩
theorem bind1 {K : PySem.W.Frag} {x qual : Str} {st : Stmt} {f : Addr} {fd : FuncData} {p : Str} (F : Fun K x qual st f fd)
    (h : ∀ (kV doc pm : Value) (an : Option Addr) (cdv ct u : Value), bindArgs (PySem.W.fnOf x qual (defArgs st) (defBody st) (defScope st) .none kV doc pm an cdv ct) ⟨[u], []⟩ = pure [(p, u)]) (s : Shared) (v : Value) : BindsTo s fd ⟨[v], []⟩ [(p, v)] := by
  obtain ⟨oc, od, kV, doc, pm, an, cdv, ct, osl, rfl, lk, hcd⟩ := F.ex
  exact .of_eq (h kV doc pm an cdv ct v)
theorem bindsK {K : PySem.W.Frag} {x qual : Str} {st : Stmt} {f : Addr} {fd : FuncData} {ps ks : List Str} {perm : List Nat} (F : Fun K x qual st f fd)
    (h : ∀ (kV doc pm : Value) (an : Option Addr) (cdv ct : Value) (ws : List Value), (pick perm ws).length = ps.length → bindArgs (PySem.W.fnOf x qual (defArgs st) (defBody st) (defScope st) .none kV doc pm an cdv ct) ⟨[], ks.zip ws⟩ = pure (ps.zip (pick perm ws))) (s : Shared) (ws : List Value)
    (hl : (pick perm ws).length = ps.length) : BindsTo s fd ⟨[], ks.zip ws⟩ (ps.zip (pick perm ws)) := by
  obtain ⟨oc, od, kV, doc, pm, an, cdv, ct, osl, rfl, lk, hcd⟩ := F.ex
  exact .of_eq (h kV doc pm an cdv ct ws hl)
def spZ (K : PySem.W.Frag) : Sp := fun vs H Q _ => ∃ (a : Addr) (ns : List Int), vs = [.ref a] ∧ ns.length ≤ 63 ∧ Only H ∧ SqL K H a (ns.map V.int) ∧ ∀ H', Q (.bl true) H'
theorem law_spZ {K : PySem.W.Frag} {P : Program} {w : World} {mg : Str → Option Value} {base : Heap} {k : Nat} {f : Addr} {fd : FuncData} {sp : ZC}
    (F : ZFn P w K mg base [] k f fd ["script"] sp) (h : ∀ ns : List Int, ns.length ≤ 63 → ∀ Kc : WK, (∀ S', Kc (.bl true) S') → sp [.ref 0] [.frz (ns.map W.int)] Kc) : FnOk P w K mg base CX0 k f fd ["script"] (spZ K) := law_z F h
end Z

set_option maxHeartbeats 2000000
/-! Z12: enumerate over lists and tuples, zip. -/
namespace Z
open PySem PySem.Spec PyProof.Rows L2
open PySem.Sem (wp)
open PySem.AutoSeq1 (wpAny_loadPart')
set_option maxHeartbeats 4000000 in
theorem meetsEnum1 {v : Value} {o : Obj} {Hh : Heap → Prop} (Bg : Begins v o Hh) :
    Meets (Builtin.«enumerate.__new__» ⟨[.type "enumerate", v], []⟩) fun _ Rr s0 => Hh s0.heap ∧ Rr (.ok (.ret (.ref (s0.heap.push o).objs.size)))
      { s0 with heap := (s0.heap.push o).push { cls := .type "enumerate", data := .fields #[.none, .bool false, .ref s0.heap.objs.size, rawInt 0, .none, .none] } } := by
  refine .of_wp fun P0 w0 A0 R0 s0 hh0 => ?_
  obtain ⟨hp0, g0, dd0, tk0, os0⟩ := s0
  obtain ⟨hb0, hr0⟩ := hh0
  have hsubE := sub_enumerate
  have goIt : ∀ {A' : Around} {E : Value → Shared → Prop} {Q : Value → Shared → Prop}, Q (.ref hp0.objs.size) ⟨hp0.push o, g0, dd0, tk0, os0⟩ → wpAny (model P0 w0) A' (pyIter v) Q E ⟨hp0, g0, dd0, tk0, os0⟩ :=
    fun q => Bg.iter P0 w0 _ _ ⟨hp0, g0, dd0, tk0, os0⟩ _ hb0 q
  wp_walk using goIt
  refine wpAny_stack_any fun stk => wpAny_pure ?_
  split
  · rename_i cc _ _ _ _ _
    cases (cc == Value.type "enumerate")
    · wp_walk using goIt
      exact ⟨_, rfl, hr0⟩
    · wp_walk using goIt
      exact ⟨_, rfl, hr0⟩
  · wp_walk using goIt
    exact ⟨_, rfl, hr0⟩
section
variable {prog : Program} {w : World} {Ar : Around} {E : Value → Shared → Prop} {s : Shared}
theorem callEnum1 {v : Value} {o : Obj} {Hh : Heap → Prop} {Q : Value → Shared → Prop} (Bg : Begins v o Hh) (h1 : Hh s.heap)
    (h : ∀ h', IsEnum h' (s.heap.objs.size + 1) s.heap.objs.size 0 .none → h'.get? s.heap.objs.size = some o → (∀ b u, s.heap.get? b = some u → h'.get? b = some u) → Q (.ref (s.heap.objs.size + 1)) { s with heap := h' }) :
    wpAny (model prog w) Ar (call (.type "enumerate") [v]) Q E s := by
  refine callType_new F.called_enumerate (by decide) (F.typeCall_enumerate_1 _) (F.newCall_enumerate_1 _) (fun ob => F.args_object_init_2 ob _) F.entry_enumerate_new (meetsEnum1 Bg) ⟨h1, ?_⟩
  have hz1 : (s.heap.push o).objs.size = s.heap.objs.size + 1 := Heap.size_push ..
  rw [hz1]
  have hE : IsEnum ((s.heap.push o).push { cls := .type "enumerate", data := .fields #[.none, .bool false, .ref s.heap.objs.size, rawInt 0, .none, .none] }) (s.heap.objs.size + 1) s.heap.objs.size 0 .none := by
    have q := Heap.get?_push_size (s.heap.push o) (o := { cls := .type "enumerate", data := .fields #[.none, .bool false, .ref s.heap.objs.size, rawInt 0, .none, .none] }) rfl
    rwa [hz1] at q
  exact ⟨⟨_, hE, rfl⟩, h _ hE (Heap.get?_push_of_some _ (Heap.get?_push_size _ Bg.free)) fun b u x => Heap.get?_push_of_some _ (Heap.get?_push_of_some _ x)⟩
end
/-- a tuple's items, each in a new pair with its number -/
def IteT (K : PySem.W.Frag) (a : Addr) : It :=
  ⟨fun i H => ∃ (xs : List V) (x : V), SqT K H a xs ∧ xs[i]? = some x, fun i H v H' => ∃ T x, v = .ref T ∧ H T = none ∧ H' = upd H T (.tup [.int (i : Nat), x]) ∧ ∀ xs, SqT K H a xs → xs[i]? = some x, fun i H => ∃ xs : List V, SqT K H a xs ∧ xs.length ≤ i⟩
theorem turn_enumT {P : Program} {w : World} {K : PySem.W.Frag} {elts : List Expr} {kk : Nat} {tpos : Pos} (a e it : Addr) (hai : a ≠ it) (hae : a ≠ e) :
    Turn P w K (.Tuple elts kk tpos) (IteT K a) [e, it] e (fun i h => (∃ old, IsEnum h e it ((i : Nat) : Int) old) ∧ h.IsTupleIter it a i ∧ e ≠ it) where
  mem := by simp
  obj := by
    rintro i h ⟨⟨old, he⟩, ⟨o, ho, hc, hd⟩, _⟩ b hb
    rcases (by simpa using hb : b = e ∨ b = it) with rfl | rfl
    · exact ⟨_, he, fun v q => nomatch q⟩
    · exact ⟨o, ho, fun v q => by rw [hd] at q; cases q⟩
  keep := by
    rintro i h h' ⟨⟨old, he⟩, hi, hne⟩ k
    exact ⟨⟨old, k e (by simp) _ he⟩, hi.at fun o q => k it (by simp) o q, hne⟩
  item := by
    rintro X rfl rfl rfl hc i pins s σ H E I hf ⟨⟨old, he⟩, hit, hne⟩ ⟨xs, x, hq, hx⟩
    obtain ⟨its, rv, p, hz⟩ := I.tuple hq
    obtain ⟨u, hu, ru⟩ := rv.get hx
    have hel : e < s.heap.objs.size := Heap.lt_size he
    have hil : it < s.heap.objs.size := by obtain ⟨_, q, _⟩ := hit; exact Heap.lt_size q
    have hh0 : X.A.in1.handled = none := I.ok.hd hc
    have pT : s.heap.IsTuple a its.toArray := p
    have hlt : i < its.toArray.size := by
      have := (List.getElem?_eq_some_iff.mp hu).1
      simpa using this
    refine wpAny_pyNext_enum_itemC (Draws.tuple hh0 it a hai its.toArray) he ⟨hit, pT⟩ hlt hne (by simp; exact ⟨hne, fun z => hae z.symm⟩) fun x' h' tk hx' ho hst' hT hsz hk => ?_
    obtain ⟨hit', _⟩ := hst'
    have ex : x' = u := by
      have h9 : its[i]? = some x' := by simpa using hx'
      exact Option.some.inj (h9.symm.trans hu)
    subst ex
    refine ⟨_, rfl, wpAny_letOwnedTupleGo_enum (s := { s with heap := h', toks := tk + 1 }) ho fun h'' he' sb => ?_⟩
    have hT2 : h''.get? s.heap.objs.size = some { cls := .type "tuple", data := .seq #[.int i tk, x'] } := (sb.2 _ (Nat.ne_of_gt hel)).trans hT
    have nob : ObjOk X.prog X.w (upd H s.heap.objs.size (.tup [.int (i : Nat), x])) h'' s.heap.objs.size (.tup [.int (i : Nat), x]) :=
      ⟨by show 2 ≤ sizeLine; decide, [.int i tk, x'], .cons ⟨_, rfl⟩ (.cons ru .nil), ⟨_, hT2, rfl, _, rfl⟩⟩
    have I1 : Inv X pins σ (upd H s.heap.objs.size (.tup [.int (i : Nat), x])) { s with heap := h'', toks := tk + 1 } :=
      I.turnedNew (ch := [e, it]) (fun b ob hb q => (sb.2 b fun z => hb (by simp [z])).trans (hk b ob (fun z => hb (by simp [z])) (fun z => hb (by simp [z])) q)) hf (Nat.le_refl _) nob
    refine ⟨.ref s.heap.objs.size, _, I1, rfl, ⟨_, x, rfl, I.hok.fresh (Nat.le_refl _), rfl, fun ys hy => by rw [I.tuple_inj hy hq]; exact hx⟩, ⟨⟨x', ?_⟩, hit'.at fun o q => (sb.2 it (Ne.symm hne)).trans q, hne⟩, fun b hb => ?_⟩
    · rw [Int.natCast_add]
      exact he'
    · have hlb : b < s.heap.objs.size := by
        rcases (by simpa using hb : b = e ∨ b = it) with rfl | rfl
        · exact hel
        · exact hil
      rw [upd_ne (Nat.ne_of_lt hlb)]
      exact (hf b hb).1
  done := by
    rintro X rfl rfl rfl hc i pins s σ H E I hf ⟨⟨old, he⟩, hit, hne⟩ ⟨xs, hq, hx⟩
    obtain ⟨its, rv, p, hz⟩ := I.tuple hq
    have pT : s.heap.IsTuple a its.toArray := p
    have hh0 : X.A.in1.handled = none := I.ok.hd hc
    have hl := rv.length
    have D : Draws X.prog X.w X.A.in1 it [it, a] i (fun _ _ => True) (fun j h => j = i ∧ h.IsTupleIter it a i ∧ h.IsTuple a its.toArray) :=
      { live := fun _ _ st => let ⟨o, ho, _⟩ := st.2.1; ⟨o, ho⟩
        frame := fun _ _ _ st hk => ⟨st.1, st.2.1.at fun o q => hk it (by simp) o q, st.2.2.at fun o q => hk a (by simp) o q⟩
        item := fun j s Q E hj st _ => absurd st.1 (Nat.ne_of_lt hj)
        done := fun s Q E st hE => wpAny_nextOf_tuple_end hh0 st.2.1 st.2.2 (by simp; omega) hE }
    refine wpAny_pyNext_enum_endD D he ⟨rfl, hit, pT⟩ fun h' eb => ?_
    obtain ⟨f0, f1, f2, f3, f4, f5⟩ := hf it (by simp)
    exact ⟨rfl, I.turned (t' := s.toks) (fun b o hb q => eb b o hb q) f0 f1 f3 f4 f5⟩
  self := fun Ar i s Q E st h => let ⟨⟨_, he⟩, _⟩ := st; wpAny_pyIter_enum he h
def iEnumT (K : PySem.W.Frag) (ta : TA) : TI := fun σ H R => ta σ H fun vs H1 => ∃ a xs, vs = [.ref a] ∧ ((SqL K H1 a xs ∧ R (Ite K a) H1) ∨ (SqT K H1 a xs ∧ R (IteT K a) H1))
theorem pi_enumT {X : Cx} {e : Expr} {ta : TA} {p pos tpos : Pos} {elts : List Expr} {kk : Nat} (hg : Gl X "enumerate") (hm : X.mg "enumerate" = none) (ha : PA X [e] ta) (hs : starEach [e] X.env = [(false, eval e X.env)] := by rfl) :
    PI X (.Tuple elts kk tpos) (.Call (.Name "enumerate" p) [e] [] pos) (iEnumT X.K ta) := by
  refine ⟨fun pins s σ H R I h => ?_⟩
  refine Call_ (ld_blt I hg hm PyProof.Rows.boot_enumerate (PyProof.Rows.callWith_type1 (thn (ha.run pos pins s σ H _ I h) fun us s1 ⟨vs, H1, I1, r1, a, xs, ex, q⟩ => ?_) hs rfl))
  subst ex
  cases r1 with
  | cons r rr =>
    cases rr
    cases r
    rcases q with ⟨hq, q⟩ | ⟨hq, q⟩
    · obtain ⟨its, rv, p', hz⟩ := I1.list hq
      refine callEnum1 (begins_list a its.toArray) p'.isList fun h' he hit hk => wpAny_pyIter_enum he ?_
      have I2 : Inv X pins σ H1 { s1 with heap := h' } := I1.kept (t' := s1.toks) hk
      refine ⟨s1.heap.objs.size + 1, [s1.heap.objs.size + 1, s1.heap.objs.size], _, _, H1, rfl, I2, turn_enum a (s1.heap.objs.size + 1) s1.heap.objs.size, ⟨⟨.none, he⟩, ⟨_, hit, rfl, rfl⟩, Nat.succ_ne_self _⟩, fun b hb => ?_, q⟩
      have hle : s1.heap.objs.size ≤ b := by
        rcases (by simpa using hb : b = s1.heap.objs.size + 1 ∨ b = s1.heap.objs.size) with z | z
        · rw [z]; exact Nat.le_succ _
        · rw [z]; exact Nat.le_refl _
      exact I1.fpOk hle (I1.hok.fresh hle)
    · obtain ⟨its, rv, p', hz⟩ := I1.tuple hq
      have pT : s1.heap.IsTuple a its.toArray := p'
      have hal : a < s1.heap.objs.size := by obtain ⟨_, q9, _⟩ := pT; exact Heap.lt_size q9
      refine callEnum1 (begins_tuple a its.toArray) pT fun h' he hit hk => wpAny_pyIter_enum he ?_
      have I2 : Inv X pins σ H1 { s1 with heap := h' } := I1.kept (t' := s1.toks) hk
      refine ⟨s1.heap.objs.size + 1, [s1.heap.objs.size + 1, s1.heap.objs.size], _, _, H1, rfl, I2, turn_enumT a (s1.heap.objs.size + 1) s1.heap.objs.size (Nat.ne_of_lt hal) (Nat.ne_of_lt (Nat.lt_succ_of_lt hal)), ⟨⟨.none, he⟩, ⟨_, hit, rfl, rfl⟩, Nat.succ_ne_self _⟩, fun b hb => ?_, q⟩
      have hle : s1.heap.objs.size ≤ b := by
        rcases (by simpa using hb : b = s1.heap.objs.size + 1 ∨ b = s1.heap.objs.size) with z | z
        · rw [z]; exact Nat.le_succ _
        · rw [z]; exact Nat.le_refl _
      exact I1.fpOk hle (I1.hok.fresh hle)
/-- the items with their numbers -/
def enumW (xs : List W) : List W := xs.mapIdx fun i w => .tup [.int (i : Nat), w]
theorem enumW_length (xs : List W) : (enumW xs).length = xs.length := by simp [enumW]
theorem enumW_get {xs : List W} {i : Nat} {w : W} : (enumW xs)[i]? = some w ↔ ∃ x, xs[i]? = some x ∧ w = .tup [.int (i : Nat), x] := by
  unfold enumW
  rw [List.getElem?_mapIdx, Option.map_eq_some_iff]
  constructor <;> (rintro ⟨x, h1, h2⟩; exact ⟨x, h1, h2.symm⟩)
section
variable {X : Cx} {TB : List Addr} {e : Expr} {te : ZE} {pos p tpos : Pos} {elts : List Expr} {kk : Nat}
theorem wk_enumT {K : PySem.W.Frag} {A : List Addr} {H : Hp} {xs : List W} {vs : List V} {a : Addr} (h : TupAt K H a vs) (r : Reps K A H xs vs) : Wk K TB A H ⟨enumW xs, fun _ => True⟩ (IteT K a) := by
  refine ⟨fun i A' S' H' hi ea eh s _ => ?_, fun A' S' H' ea eh s _ => ⟨vs, (h.mono eh).sq, by rw [enumW_length]; exact Nat.le_of_eq r.length.symm⟩, fun i A' S' H' x H'' hi ea eh s _ y => ?_⟩
  · rw [enumW_length] at hi
    have hi' : i < vs.length := by rw [← r.length]; exact hi
    exact ⟨vs, vs[i], (h.mono eh).sq, List.getElem?_eq_getElem hi'⟩
  · obtain ⟨T, x1, rfl, nT, rfl, y⟩ := y
    have e1 := y vs (h.mono eh).sq
    obtain ⟨w, e2, e3⟩ := r.get' e1
    exact ⟨.new nT, s.laid nT, _, enumW_get.mpr ⟨w, e2, rfl⟩, .tup (.inl upd_same) (.cons (.int _) (.cons (e3.mono ea (eh.trans (.new nT))) .nil))⟩
theorem wk_enumL {K : PySem.W.Frag} {A : List Addr} {H : Hp} {xs : List W} {a : Addr} {n : Nat} (ha : A[n]? = some a) : Wk K TB A H ⟨enumW xs, fun S' => IsLst S' n xs⟩ (Ite K a) := by
  refine ⟨fun i A' S' H' hi ea eh s g => ?_, fun A' S' H' ea eh s g => ?_, fun i A' S' H' x H'' hi ea eh s g y => ?_⟩
  · obtain ⟨vs, q, r⟩ := s.seq (ea _ _ ha) g
    rw [enumW_length] at hi
    have hi' : i < vs.length := by rw [← r.length]; exact hi
    exact ⟨vs, vs[i], q, List.getElem?_eq_getElem hi'⟩
  · obtain ⟨vs, q, r⟩ := s.seq (ea _ _ ha) g
    exact ⟨vs, q, by rw [enumW_length]; exact Nat.le_of_eq r.length.symm⟩
  · obtain ⟨T, x1, rfl, nT, rfl, y⟩ := y
    obtain ⟨vs, q, r⟩ := s.seq (ea _ _ ha) g
    have e1 := y vs q
    obtain ⟨w, e2, e3⟩ := r.get' e1
    exact ⟨.new nT, s.laid nT, _, enumW_get.mpr ⟨w, e2, rfl⟩, .tup (.inl upd_same) (.cons (.int _) (.cons (e3.mono (.refl _) (.new nT)) .nil))⟩
@[irreducible] def qEnumI (K : ZIt → Store → Prop) : List W → Store → Prop := fun ws S1 => Bx ((∃ xs, ws = [.tup xs] ∧ K ⟨enumW xs, fun _ => True⟩ S1) ∨ ∃ n xs, ws = [.ref n] ∧ IsLst S1 n xs ∧ K ⟨enumW xs, fun S' => IsLst S' n xs⟩ S1)
def zEnumI (ts : ZA) : ZTI := fun L S K => ts L S (qEnumI K)
theorem zi_enum {ts : ZA} (hg : Gl X "enumerate") (hm : X.mg "enumerate" = none) (ha : ZPA TB X [e] ts) (hs : starEach [e] X.env = [(false, eval e X.env)] := by rfl) : ZPI TB X (.Tuple elts kk tpos) (.Call (.Name "enumerate" p) [e] [] pos) (zEnumI ts) :=
  ⟨(pi_enumT hg hm ha.pa hs).conv fun σ H R ⟨L, S, A, Kc, sk, lk, h, hR⟩ => ⟨L, S, A, _, sk, lk, h, fun vs H1 ⟨A1, S1, ws, ea, eh, s1, r, h0⟩ => by
    unfold qEnumI at h0
    rcases h0.ok with ⟨xs, rfl, k⟩ | ⟨n, xs, rfl, hl, k⟩
    · cases r with
      | cons r1 r =>
        cases r
        cases r1 with
        | tup h1 q1 => exact ⟨_, _, rfl, .inr ⟨h1.sq, hR _ S1 A1 H1 _ ea eh s1 (wk_enumT h1 q1) k⟩⟩
    · cases r with
      | cons r1 r =>
        cases r
        cases r1 with
        | ref h1 =>
          obtain ⟨vs, hq, q1⟩ := s1.seq h1 hl
          exact ⟨_, _, rfl, .inl ⟨hq, hR _ S1 A1 H1 _ ea eh s1 (wk_enumL h1) k⟩⟩⟩⟩
theorem s_enumI_tup {KI : ZIt → Store → Prop} {xs : List W} {S : Store} (h : KI ⟨enumW xs, fun _ => True⟩ S) : qEnumI KI [.tup xs] S := by unfold qEnumI; exact ⟨.inl ⟨xs, rfl, h⟩⟩
theorem s_enumI_ref {KI : ZIt → Store → Prop} {n : Nat} {xs : List W} {S : Store} (e : IsLst S n xs) (h : KI ⟨enumW xs, fun S' => IsLst S' n xs⟩ S) : qEnumI KI [.ref n] S := by unfold qEnumI; exact ⟨.inr ⟨n, xs, rfl, e, h⟩⟩
end
end Z

set_option maxHeartbeats 4000000
/-! Z13: the helpers that twenty laws share: the reel of numbers, and the likeness of two values. -/
namespace FC
open PySem PySem.Spec PyProof.Rows L2 Z
local macro_rules | `(tactic| tb_start) => `(tactic| first | assumption | exact True.intro | exact ⟨_, _, rfl, by ke_read⟩ | ((with_reducible refine' MulOk.r ?s1 ?s2); (case s1 => (decide)); (case s2 => (decide))) | ((with_reducible refine' DivOk.any ?s1); (case s1 => (assumption))) | ((with_reducible refine' DivOk.small ?s1 ?s2); (case s1 => (decide)); (case s2 => (decide))) | ((with_reducible refine' MulOk.r ?s1 ?s2); (case s1 => (omega)); (case s2 => (omega))) | ((with_reducible refine' MulOk.l ?s1 ?s2); (case s1 => (omega)); (case s2 => (omega))) | ((with_reducible refine' DivOk.small ?s1 ?s2); (case s1 => (omega)); (case s2 => (omega))) | ((with_reducible refine' PowOk.lit ?s1 ?s2 ?s3); (case s1 => (decide)); (case s2 => (decide)); (case s3 => (decide))) | omega | ((with_reducible refine' s_sz ?s1); (case s1 => (first | omega | (simp only [List.length_append, List.length_cons, List.length_nil, List.length_map, List.length_set, List.length_take, List.length_drop, List.length_dropLast] <;> omega)))) | ((with_reducible refine' s_szl ?s1); (case s1 => (first | omega | (simp only [List.length_append, List.length_cons, List.length_nil, List.length_map, List.length_set, List.length_take, List.length_drop, List.length_dropLast] <;> omega)))) | ke_read | ked_read | decide)
local macro_rules | `(tactic| ke_reads) => `(tactic| first | assumption | exact Ne.symm (by assumption) | omega | (simp only [List.length_append, List.length_cons, List.length_nil, List.length_set] at * <;> omega))
local macro_rules | `(tactic| ked_reads) => `(tactic| first | assumption | ((with_reducible refine' lt_of_get ?s1); (case s1 => (ked_read))))
local macro_rules | `(tactic| ked_read) => `(tactic| first | assumption | ((with_reducible refine' List.getElem?_set_self ?s1); (case s1 => (ked_reads))) | ((with_reducible refine' set_ne' ?s1 ?s2); (case s1 => (ke_reads)); (case s2 => (ked_read))) | exact (app_get0 _ _).trans rfl | exact (app_get _ _ _).trans rfl | ((with_reducible refine' app_l ?s1); (case s1 => (ked_read))))
local macro_rules | `(tactic| ke_read) => `(tactic| first | assumption | (apply getL_of; assumption) | ((with_reducible refine' getL_set_self ?s1); (case s1 => (ked_reads))) | exact getL_app00 _ _ _ | exact getL_app1 _ _ _ _ | ((with_reducible refine' getL_set_ne' ?s1 ?s2); (case s1 => (ke_reads)); (case s2 => (ke_read))) | ((with_reducible refine' getL_app_l ?s1); (case s1 => (ke_read))) | exact (getL_app _ _ _).trans rfl)
local macro_rules | `(tactic| kqd_all) => `(tactic| first | assumption | (rw [atI_m1]; first | with_unfolding_all rfl | assumption) | (rw [atI_lit]; first | with_unfolding_all rfl | assumption) | (rw [atI_cast]; assumption) | exact atI_ints (by omega) (by simp only [List.length_map] at *; omega))
local macro_rules | `(tactic| kct_strs) => `(tactic| first | assumption | (rw [ixN_lit, if_pos (by simp)]; done))
local macro_rules | `(tactic| kp_flats) => `(tactic| first | with_reducible refine q_let0 ?_ | with_reducible refine q_let1 ?_ | with_reducible refine q_let2 ?_ | with_reducible refine q_let3 ?_ | with_reducible refine q_let4 ?_ | with_reducible refine q_let5 ?_ | with_reducible refine q_let6 ?_ | with_reducible refine q_let7 ?_ | with_reducible refine q_let8 ?_ | with_reducible refine q_let9 ?_ | with_reducible refine q_let10 ?_ | with_reducible refine q_let11 ?_ | with_reducible refine q_let12 ?_ | with_reducible refine q_let13 ?_ | with_reducible refine q_let14 ?_ | with_reducible refine q_let15 ?_ | with_reducible refine q_let16 ?_ | with_reducible refine q_let17 ?_ | with_reducible refine q_let18 ?_ | with_reducible refine q_let19 ?_ | with_reducible refine q_let20 ?_ | with_reducible refine q_let21 ?_ | with_reducible refine q_let22 ?_ | with_reducible refine q_let23 ?_ | with_reducible refine q_let24 ?_ | with_reducible refine q_let25 ?_ | with_reducible refine q_let26 ?_ | with_reducible refine q_let27 ?_ | with_reducible refine q_let28 ?_ | with_reducible refine q_let29 ?_ | with_reducible refine q_let30 ?_ | with_reducible refine q_let31 ?_ | with_reducible refine q_let32 ?_ | with_reducible refine q_let33 ?_ | with_reducible refine q_let34 ?_ | with_reducible refine q_let35 ?_ | with_reducible refine q_let36 ?_ | with_reducible refine q_let37 ?_ | with_reducible refine q_let38 ?_ | with_reducible refine q_let39 ?_)
local macro_rules | `(tactic| tb_rel) => `(tactic| first | ((with_reducible show qLet _ _ _ _); kp_flats) | ((with_reducible refine' i_dt ?s1 ?_); (case s1 => (first | assumption | rfl))) | ((with_reducible refine' i_df ?s1 ?_); (case s1 => (assumption))) | ((with_reducible refine' i_nf ?s1 ?_); (case s1 => (first | assumption | rfl))) | ((with_reducible refine' i_nt ?s1 ?_); (case s1 => (assumption))) | ((with_reducible refine' i_t ?s1 ?_); (case s1 => (with_unfolding_all rfl))) | ((with_reducible refine' i_f ?s1 ?_); (case s1 => (with_unfolding_all rfl))) | ((with_reducible refine' q_ix_tup ?s1 ?_); (case s1 => (kqd_all))) | ((with_reducible refine' q_ix_ref ?s1 ?s2 ?_); (case s1 => (ke_read)); (case s2 => (kqd_all))) | ((with_reducible refine' q_eq_int ?_)) | ((with_reducible refine' q_ne_int ?_)) | ((with_reducible refine' q_eq_str ?s1 ?s2 ?_); (case s1 => (first | assumption | decide +kernel)); (case s2 => (first | assumption | decide +kernel))) | ((with_reducible refine' q_ne_str ?s1 ?s2 ?_); (case s1 => (first | assumption | decide +kernel)); (case s2 => (first | assumption | decide +kernel))) | ((with_reducible refine' q_len_tup ?_)) | ((with_reducible refine' q_len_ref ?s1 ?_); (case s1 => (ke_read))) | ((with_reducible refine' s_isml ?s1 ?_); (case s1 => (ke_read))) | ((with_reducible refine' q_append2 ?s1 ?s2 ?_); (case s1 => (ked_reads)); (case s2 => (tb_start))) | ((with_reducible refine' q_append0 ?s1 ?_); (case s1 => (tb_start))) | ((with_reducible refine' q_append1 ?s1 ?_); (case s1 => (tb_start))) | ((with_reducible refine' q_append ?s1 ?s2 ?_); (case s1 => (ked_read)); (case s2 => (tb_start))) | ((with_reducible refine' q_cat ?s1 ?s2 ?s3 ?_); (case s1 => (ked_read)); (case s2 => (ked_read)); (case s3 => (tb_start))) | ((with_reducible refine' q_pop0 ?s1 ?_); (case s1 => (ked_read))) | ((with_reducible refine' q_setL2 ?s1 ?s2 ?_); (case s1 => (ked_reads)); (case s2 => (kct_strs))) | ((with_reducible refine' q_setL ?s1 ?s2 ?_); (case s1 => (ked_read)); (case s2 => (kct_strs))) | ((with_reducible refine' q_tup_tup ?_)) | ((with_reducible refine' q_tup_ref ?s1 ?_); (case s1 => (ke_read))) | ((with_reducible refine' q_list_tup ?_)) | ((with_reducible refine' q_list_ref ?s1 ?_); (case s1 => (ke_read))) | ((with_reducible refine' q_sl_tupE ?s1 ?_); (case s1 => (assumption))) | ((with_reducible refine' q_sl_refE ?s1 ?s2 ?_); (case s1 => (ke_read)); (case s2 => (assumption))) | ((with_reducible refine' q_sl_tup ?_)) | ((with_reducible refine' q_sl_ref ?s1 ?_); (case s1 => (ke_read))) | ((with_reducible refine' s_enumI_tup ?_)) | ((with_reducible refine' s_enumI_ref ?s1 ?_); (case s1 => (ke_read))) | ((with_reducible refine' s_seqI_tup ?_)) | ((with_reducible refine' s_seqI_ref ?s1 ?_); (case s1 => (ke_read))) | ((with_reducible refine' q_eq_pn (d := 8) (e := 8) ?s1 ?s2 ?s3 ?s4 ?_); (case s1 => (lsm_bools)); (case s2 => (lsm_bools)); (case s3 => (first | decide | omega)); (case s4 => (first | decide | omega))) | ((with_reducible refine' q_ne_pn (d := 8) (e := 8) ?s1 ?s2 ?s3 ?s4 ?_); (case s1 => (lsm_bools)); (case s2 => (lsm_bools)); (case s3 => (first | decide | omega)); (case s4 => (first | decide | omega))) | ((with_reducible refine' q_eq_lpn (d := 8) (e := 8) ?s1 ?s2 ?s3 ?s4 ?s5 ?s6 ?_); (case s1 => (ke_read)); (case s2 => (ke_read)); (case s3 => (lsm_bools)); (case s4 => (lsm_bools)); (case s5 => (first | decide | omega)); (case s6 => (first | decide | omega))) | ((with_reducible refine' q_ne_lpn (d := 8) (e := 8) ?s1 ?s2 ?s3 ?s4 ?s5 ?s6 ?_); (case s1 => (ke_read)); (case s2 => (ke_read)); (case s3 => (lsm_bools)); (case s4 => (lsm_bools)); (case s5 => (first | decide | omega)); (case s6 => (first | decide | omega))) | ((with_reducible refine' q_is_non ?_)) | ((with_reducible refine' q_isnot_non ?_)) | ((with_reducible refine' q_eq_bl ?_)) | ((with_reducible refine' q_ne_bl ?_)) | ((with_reducible refine' q_isi ?s1 ?s2 ?_); (case s1 => (with_unfolding_all rfl)); (case s2 => (with_unfolding_all rfl))) | ((with_reducible refine' q_in_l (d := 8) (e := 8) ?s1 ?s2 ?s3 ?s4 ?s5 ?_); (case s1 => (ke_read)); (case s2 => (lsm_bools)); (case s3 => (lsm_bools)); (case s4 => (first | decide | omega)); (case s5 => (first | decide | omega))) | ((with_reducible refine' q_in_t (d := 8) (e := 8) ?s1 ?s2 ?s3 ?s4 ?_); (case s1 => (lsm_bools)); (case s2 => (lsm_bools)); (case s3 => (first | decide | omega)); (case s4 => (first | decide | omega))) | ((with_reducible refine' q_notin_l (d := 8) (e := 8) ?s1 ?s2 ?s3 ?s4 ?s5 ?_); (case s1 => (ke_read)); (case s2 => (lsm_bools)); (case s3 => (lsm_bools)); (case s4 => (first | decide | omega)); (case s5 => (first | decide | omega))) | ((with_reducible refine' q_notin_t (d := 8) (e := 8) ?s1 ?s2 ?s3 ?s4 ?_); (case s1 => (lsm_bools)); (case s2 => (lsm_bools)); (case s3 => (first | decide | omega)); (case s4 => (first | decide | omega))) | ((with_reducible refine' q_push0 ?s1 ?_); (case s1 => (tb_start))) | ((with_reducible refine' q_push ?s1 ?s2 ?_); (case s1 => (ked_read)); (case s2 => (tb_start))) | ((with_reducible refine' And.intro ?s1 ?_); (case s1 => (tb_start))))
local macro_rules | `(tactic| kbo_bools) => `(tactic| first | with_reducible refine i_d (fun _ => ?_) (fun _ => ?_) | with_reducible refine i_n (fun _ => ?_) (fun _ => ?_))
local macro_rules | `(tactic| keq_rows) => `(tactic| ((conv => whnf); repeat (tb_rel; (conv => whnf))))
local macro_rules | `(tactic| k_upd) => `(tactic| (keq_rows; try (kbo_bools <;> k_upd)))
local macro_rules | `(tactic| kat_tups) => `(tactic| (simp only [startL, List.map_cons, List.map_nil, List.length_cons, List.length_nil, Nat.zero_add, Nat.reduceAdd, Nat.reduceSub, List.reduceReplicate, List.cons_append, List.nil_append]; keq_rows))
local macro_rules | `(tactic| k_updF) => `(tactic| first | assumption | exact Keep.refl _ _ | exact Keep.app _ _ _ | ((with_reducible refine' Keep.app_r ?s1); (case s1 => (k_updF))) | ((with_reducible refine' Keep.set_in ?s1 ?s2); (case s1 => ((simp only [List.mem_cons, true_or, or_true]))); (case s2 => (k_updF))) | ((with_reducible refine' Keep.set_new ?s1 ?s2); (case s1 => (first | omega | (simp only [List.length_append, List.length_cons, List.length_nil, List.length_set] at * <;> omega))); (case s2 => (k_updF))) | exact Ext.keep (by assumption) | ((with_reducible refine' Keep.trans ?a (by assumption)); (case a => (k_updF))) | ((with_reducible refine' Keep.trans ?a (Ext.keep (by assumption))); (case a => (k_updF))))
local macro_rules | `(tactic| lsm_bools) => `(tactic| first | assumption | exact Pl.int _ _ | exact Pn.int _ _ | ((with_reducible refine' Pl.str _ _ ?s1); (case s1 => (first | assumption | decide +kernel))) | ((with_reducible refine' Pn.str _ _ ?s1); (case s1 => (first | assumption | decide +kernel))) | exact Pn.non _ | exact Pl.non _ | exact Pl.bl _ _ | exact Pns.nil _ | exact Pls.nil _ | ((with_reducible refine' Pls.cons ?s1 ?s2); (case s1 => (lsm_bools)); (case s2 => (lsm_bools))) | ((with_reducible refine' Pns.cons ?s1 ?s2); (case s1 => (lsm_bools)); (case s2 => (lsm_bools))) | ((with_reducible refine' Pl.tup ?s1 ?s2); (case s1 => (first | omega | (simp only [List.length_append, List.length_cons, List.length_nil, List.length_map, List.length_set, List.length_take, List.length_drop, List.length_dropLast] <;> omega))); (case s2 => (lsm_bools))) | ((with_reducible refine' Pn.tup ?s1 ?s2); (case s1 => (first | omega | (simp only [List.length_append, List.length_cons, List.length_nil, List.length_map, List.length_set, List.length_take, List.length_drop, List.length_dropLast] <;> omega))); (case s2 => (lsm_bools))))
def t__law_reel : ZS :=
    (zSeq (zAsg (zLst zNil) (zgName 1))
    (zSeq (zAsg (zOp qAdd (zC (.int 7919)) (zCall qLen (zCons (zVar 0) zNil))) (zgName 2))
    (zSeq (zFor (zSeqI (zVar 0)) (zgName 3) (zSeq (zAsg (zOp qMod (zCall qInt (zCons (zOp qAdd (zOp qAdd (zOp qMul (zVar 2) (zC (.int 16807))) (zOp qMod (zCall qInt (zCons (zVar 3) zNil)) (zC (.int 2147483629)))) (zC (.int 13))) zNil)) (zC (.int 2147483647))) (zgName 2))
    (zIfS (zTb (zOp qGe (zCall qAbs (zCons (zCall qInt (zCons (zVar 3) zNil)) zNil)) (zOp qPow (zC (.int 10)) (zC (.int 18))))) (zDrop (zMl qAppend (zVar 1) (zCons (zCall qAbs (zCons (zCall qInt (zCons (zVar 3) zNil)) zNil)) zNil))) zNext)))
    (zRet (zLst (zCons (zVar 1) (zCons (zC (.int 0)) (zCons (zC (.int 0)) (zCons (zVar 2) zNil)))))))))
def t__law_take : ZS :=
    (zSeq (zIfS (zAnd (zTb (zOp (qEq false) (zOp qIx (zVar 0) (zC (.int 2))) (zC (.int 0)))) (zTb (zOp qGt (zCall qLen (zCons (zOp qIx (zVar 0) (zC (.int 0))) zNil)) (zC (.int 0))))) (zSeq (zAsg (zMl qPop (zOp qIx (zVar 0) (zC (.int 0))) (zCons (zC (.int 0)) zNil)) (zgSub (zVar 0) (zC (.int 1)) qSetL))
    (zAsg (zC (.int 60)) (zgSub (zVar 0) (zC (.int 2)) qSetL))) zNext)
    (zSeq (zIfS (zTb (zOp qGt (zOp qIx (zVar 0) (zC (.int 2))) (zC (.int 0)))) (zSeq (zAsg (zOp qMod (zCall qInt (zCons (zOp qIx (zVar 0) (zC (.int 1))) zNil)) (zVar 1)) (zgName 2))
    (zSeq (zAsg (zOp qDiv (zOp qIx (zVar 0) (zC (.int 1))) (zVar 1)) (zgSub (zVar 0) (zC (.int 1)) qSetL))
    (zSeq (zAsg (zOp qMul (zOp qSub (zOp qIx (zVar 0) (zC (.int 2))) (zC (.int 1))) (zCall qInt (zCons (zOp qGt (zOp qIx (zVar 0) (zC (.int 1))) (zC (.int 0))) zNil))) (zgSub (zVar 0) (zC (.int 2)) qSetL))
    (zRet (zVar 2))))) zNext)
    (zSeq (zAsg (zOp qMod (zCall qInt (zCons (zOp qAdd (zOp qMul (zOp qIx (zVar 0) (zC (.int 3))) (zC (.int 48271))) (zC (.int 11))) zNil)) (zC (.int 2147483647))) (zgSub (zVar 0) (zC (.int 3)) qSetL))
    (zSeq (zAsg (zOp qMod (zCall qInt (zCons (zOp qAdd (zOp qMul (zOp qIx (zVar 0) (zC (.int 3))) (zC (.int 69621))) (zOp qDiv (zOp qIx (zVar 0) (zC (.int 3))) (zC (.int 65536)))) zNil)) (zC (.int 2147483629))) (zgName 3))
    (zRet (zOp qMod (zCall qInt (zCons (zOp qDiv (zVar 3) (zC (.int 16))) zNil)) (zVar 1)))))))
def t__law_of (sp__law_take : ZC) : ZS :=
    (zRet (zOp qIx (zVar 1) (zCallF 2 sp__law_take (zCons (zVar 0) (zCons (zCall qLen (zCons (zVar 1) zNil)) zNil)))))
def t__law_same (sp__law_same : ZC) : ZS :=
    (zSeq (zIfS (zTru (zCall qIsi (zCons (zVar 1) (zCons (zC (.ty "tuple")) zNil)))) (zSeq (zIfS (zOr (zNot (zTru (zCall qIsi (zCons (zVar 0) (zCons (zC (.ty "tuple")) zNil))))) (zTb (zOp (qEq true) (zCall qLen (zCons (zVar 0) zNil)) (zCall qLen (zCons (zVar 1) zNil))))) (zRet (zC (.bl false))) zNext)
    (zRet (zOp (qEq false) (zLc (zRngI (zCons (zCall qLen (zCons (zVar 1) zNil)) zNil)) (zgName 2) (zNot (zTru (zCallF 2 sp__law_same (zCons (zOp qIx (zVar 0) (zVar 2)) (zCons (zOp qIx (zVar 1) (zVar 2)) zNil))))) (zVar 2) [2]) (zLst zNil)))) zNext)
    (zSeq (zIfS (zTb (zOp (qIsN false) (zVar 1) (zC .non))) (zRet (zOp (qIsN false) (zVar 0) (zC .non))) zNext)
    (zSeq (zIfS (zTru (zCall qIsi (zCons (zVar 1) (zCons (zC (.ty "bool")) zNil)))) (zRet (zAndV (zCall qIsi (zCons (zVar 0) (zCons (zC (.ty "bool")) zNil))) (zOp (qEq false) (zVar 0) (zVar 1)))) zNext)
    (zSeq (zIfS (zTru (zCall qIsi (zCons (zVar 1) (zCons (zC (.ty "int")) zNil)))) (zRet (zAndV (zCall qIsi (zCons (zVar 0) (zCons (zC (.ty "int")) zNil))) (zAndV (zNotV (zCall qIsi (zCons (zVar 0) (zCons (zC (.ty "bool")) zNil)))) (zOp (qEq false) (zVar 0) (zVar 1))))) zNext)
    (zRet (zAndV (zCall qIsi (zCons (zVar 0) (zCons (zC (.ty "str")) zNil))) (zOp (qEq false) (zVar 0) (zVar 1))))))))
abbrev EndK (K : WK) : ZEnds := { nx := fun _ S' => K .non S', rt := K }
def ReelOk (S : Store) (n g : Nat) : Prop := ∃ (gs : List Int) (v r mixed : Int), S[n]? = some (.lst [.ref g, .int v, .int r, .int mixed]) ∧ S[g]? = some (.lst (gs.map W.int)) ∧ g ≠ n
@[irreducible] def sp__law_reel : ZC := fun ws S K => ∃ (s : Nat) (ns : List Int), ws = [.ref s] ∧ IsLst S s (ns.map W.int) ∧ ns.length ≤ 63 ∧ ∀ n g S', Ext S S' → S.length ≤ g → S.length ≤ n → ReelOk S' n g → K (.ref n) S'
theorem u__law_reel (ws : List W) (S : Store) (K : WK) (h : sp__law_reel ws S K) (hl : ws.length = 1) : t__law_reel (EndK K) (startL 4 ws) S := by
  unfold sp__law_reel at h
  obtain ⟨s, ns, rfl, hs, hn, h⟩ := h
  kat_tups
  refine forI (fun i L S1 => ∃ (mx : Int) (x : Option W) (gs : List Int), L = [some (.ref s), some (.ref S.length), some (.int mx), x] ∧ S1 = S ++ [.lst (gs.map W.int)] ∧ gs.length ≤ i) ⟨_, _, [], rfl, rfl, Nat.zero_le _⟩ ?_ ?_ ?_
  · rintro i L S1 ⟨mx, x, gs, rfl, rfl, _⟩
    ke_read
  · rintro i w L S1 hw ⟨mx, x, gs, rfl, rfl, hg⟩
    rw [List.getElem?_map] at hw
    have hi : i < 63 := Nat.lt_of_lt_of_le (by
      cases he : ns[i]? with
      | none => rw [he] at hw; cases hw
      | some c => exact (List.getElem?_eq_some_iff.mp he).1) hn
    obtain ⟨c, hc, rfl⟩ := Option.map_eq_some_iff.mp hw
    k_upd
    · refine ⟨_, _, gs ++ [if c < 0 then -c else c], rfl, ?_, by simp; omega⟩
      rw [List.map_append]
      rfl
    · exact ⟨_, _, gs, rfl, rfl, by omega⟩
  · rintro L S1 ⟨mx, x, gs, rfl, rfl, hg⟩
    keq_rows
    refine h _ _ _ (by k_updF) (Nat.le_refl _) (by simp) ⟨gs, 0, 0, mx, (app_get0 _ _).trans rfl, ?_, by simp⟩
    exact app_l ((app_get0 _ _).trans rfl)
@[irreducible] def sp__law_take : ZC := fun ws S K => ∃ n g many, ws = [.ref n, .int many] ∧ ReelOk S n g ∧ DivOk 0 many ∧ ∀ r S', 0 ≤ r → r < many → Keep [n, g] S S' → ReelOk S' n g → K (.int r) S'
theorem reel_set {S : Store} {n g : Nat} {gs : List Int} {v r mixed v' r' mixed' : Int} (h1 : S[n]? = some (.lst [.ref g, .int v, .int r, .int mixed])) (h2 : S[g]? = some (.lst (gs.map W.int))) (h3 : g ≠ n) :
    ReelOk (S.set n (.lst [.ref g, .int v', .int r', .int mixed'])) n g :=
  ⟨gs, v', r', mixed', List.getElem?_set_self (lt_of_get h1), by rw [List.getElem?_set_ne (Ne.symm h3)]; exact h2, h3⟩
theorem reel_pop {S : Store} {n g : Nat} {x : W} {gs : List Int} {v r mixed v' r' mixed' : Int} (h1 : S[n]? = some (.lst [.ref g, .int v, .int r, .int mixed])) (h2 : S[g]? = some (.lst (x :: gs.map W.int))) (h3 : g ≠ n) :
    ReelOk ((S.set g (.lst (gs.map W.int))).set n (.lst [.ref g, .int v', .int r', .int mixed'])) n g :=
  ⟨gs, v', r', mixed', List.getElem?_set_self (by rw [List.length_set]; exact lt_of_get h1), by rw [List.getElem?_set_ne (Ne.symm h3), List.getElem?_set_self (lt_of_get h2)], h3⟩
theorem u__law_take (ws : List W) (S : Store) (K : WK) (h : sp__law_take ws S K) (hl : ws.length = 2) : t__law_take (EndK K) (startL 4 ws) S := by
  unfold sp__law_take at h
  obtain ⟨n, g, many, rfl, ⟨gs, v, r, mixed, h1, h2, h3⟩, ⟨h5, h6⟩, h⟩ := h
  have hdv : DivOk 0 many := ⟨h5, h6⟩
  cases gs with
  | nil =>
    kat_tups
    kbo_bools
    all_goals k_upd
    all_goals first | exact h _ _ (Int.emod_nonneg _ (by omega)) (Int.emod_lt_of_pos _ h5) (Keep.set_in (by simp) (Keep.refl _ _)) (reel_set h1 h2 h3) | exact h _ _ (Int.emod_nonneg _ (by omega)) (Int.emod_lt_of_pos _ h5) (Keep.set_in (by simp) (Keep.set_in (by simp) (Keep.refl _ _))) (reel_pop h1 h2 h3)
  | cons x gs =>
    kat_tups
    kbo_bools
    all_goals k_upd
    all_goals first | exact h _ _ (Int.emod_nonneg _ (by omega)) (Int.emod_lt_of_pos _ h5) (Keep.set_in (by simp) (Keep.refl _ _)) (reel_set h1 h2 h3) | exact h _ _ (Int.emod_nonneg _ (by omega)) (Int.emod_lt_of_pos _ h5) (Keep.set_in (by simp) (Keep.set_in (by simp) (Keep.refl _ _))) (reel_pop h1 h2 h3)
theorem c__law_take {n g : Nat} {many : Int} {S : Store} {K : WK} (h1 : ReelOk S n g) (h2 : DivOk 0 many) (h : ∀ r S', 0 ≤ r → r < many → Keep [n, g] S S' → ReelOk S' n g → K (.int r) S') : sp__law_take [.ref n, .int many] S K := by unfold sp__law_take; exact ⟨n, g, many, rfl, h1, h2, h⟩
theorem c__law_reel {s : Nat} {ns : List Int} {S : Store} {K : WK} (h1 : IsLst S s (ns.map W.int)) (h2 : ns.length ≤ 63) (h : ∀ n g S', Ext S S' → S.length ≤ g → S.length ≤ n → ReelOk S' n g → K (.ref n) S') : sp__law_reel [.ref s] S K := by unfold sp__law_reel; exact ⟨s, ns, rfl, h1, h2, h⟩
theorem DivOk.len {k : Nat} (h1 : 0 < k) (h2 : k ≤ 16777216) : DivOk 0 (k : Int) := DivOk.small (by omega) (by omega)
theorem ReelOk.lt {S : Store} {n g : Nat} (h : ReelOk S n g) : n < S.length ∧ g < S.length ∧ g ≠ n := by
  obtain ⟨gs, v, r, mixed, h1, h2, h3⟩ := h
  exact ⟨lt_of_get h1, lt_of_get h2, h3⟩
theorem ReelOk.keep {ms : List Nat} {S S' : Store} {n g : Nat} (h : ReelOk S n g) (k : Keep ms S S') (hn : n ∉ ms) (hm : g ∉ ms) : ReelOk S' n g := by
  obtain ⟨gs, v, r, mixed, h1, h2, h3⟩ := h
  exact ⟨gs, v, r, mixed, k _ _ hn h1, k _ _ hm h2, h3⟩
theorem ReelOk.ext {S S' : Store} {n g : Nat} (h : ReelOk S n g) (k : Ext S S') : ReelOk S' n g := h.keep k (by simp) (by simp)
/-- a row: a tuple, or a list that is not the reel's -/
def RowAt (S : Store) (n g : Nat) (row : W) (xs : List W) : Prop := row = .tup xs ∨ ∃ q, row = .ref q ∧ IsLst S q xs ∧ q ≠ n ∧ q ≠ g
@[irreducible] def sp__law_of : ZC := fun ws S K => ∃ n g row xs, ws = [.ref n, row] ∧ ReelOk S n g ∧ RowAt S n g row xs ∧ 0 < xs.length ∧ xs.length ≤ 16777216 ∧ ∀ x S', x ∈ xs → Keep [n, g] S S' → ReelOk S' n g → K x S'
theorem c__law_of {n g : Nat} {row : W} {xs : List W} {S : Store} {K : WK} (h1 : ReelOk S n g) (h2 : RowAt S n g row xs) (h3 : 0 < xs.length) (h4 : xs.length ≤ 16777216) (h : ∀ x S', x ∈ xs → Keep [n, g] S S' → ReelOk S' n g → K x S') : sp__law_of [.ref n, row] S K := by unfold sp__law_of; exact ⟨n, g, row, xs, rfl, h1, h2, h3, h4, h⟩
theorem u__law_of (ws : List W) (S : Store) (K : WK) (h : sp__law_of ws S K) (hl : ws.length = 2) : t__law_of sp__law_take (EndK K) (startL 2 ws) S := by
  unfold sp__law_of at h
  obtain ⟨n, g, row, xs, rfl, h1, h2, h3, h4, h⟩ := h
  rcases h2 with rfl | ⟨q, rfl, hq, q1, q2⟩
  · kat_tups
    refine c__law_take h1 (DivOk.len h3 h4) fun r S' a b c d => ?_
    obtain ⟨k, rfl⟩ : ∃ k : Nat, r = (k : Int) := ⟨r.toNat, by omega⟩
    have h5 : k < xs.length := by omega
    have h6 : xs[k]? = some xs[k] := List.getElem?_eq_getElem h5
    keq_rows
    exact h _ _ (List.getElem_mem h5) c d
  · kat_tups
    refine c__law_take h1 (DivOk.len h3 h4) fun r S' a b c d => ?_
    obtain ⟨k, rfl⟩ : ∃ k : Nat, r = (k : Int) := ⟨r.toNat, by omega⟩
    have h5 : k < xs.length := by omega
    have h6 : xs[k]? = some xs[k] := List.getElem?_eq_getElem h5
    have h7 := c.lst (by simp; exact ⟨q1, q2⟩) hq
    keq_rows
    exact h _ _ (List.getElem_mem h5) c d
@[irreducible] def sp__law_same (d : Nat) : ZC := fun ws S K => ∃ x, ws = [x, x] ∧ Pl d x ∧ ∀ S', Ext S S' → K (.bl true) S'
theorem c__law_same {d : Nat} {x : W} {S : Store} {K : WK} (h1 : Pl d x) (h : ∀ S', Ext S S' → K (.bl true) S') : sp__law_same d [x, x] S K := by unfold sp__law_same; exact ⟨x, rfl, h1, h⟩
theorem c__law_sameE {d : Nat} {x y : W} {S : Store} {K : WK} (e : x = y) (h1 : Pl d x) (h : ∀ S', Ext S S' → K (.bl true) S') : sp__law_same d [x, y] S K := e ▸ c__law_same h1 h
theorem u__law_same (d : Nat) (sp : ZC) (hs : ∀ (e : Nat), d = e + 1 → sp = sp__law_same e) (ws : List W) (S : Store) (K : WK) (h : sp__law_same d ws S K) (hl : ws.length = 2) : t__law_same sp (EndK K) (startL 3 ws) S := by
  unfold sp__law_same at h
  obtain ⟨x, rfl, hp, h⟩ := h
  cases hp with
  | non => kat_tups; exact h _ (Keep.refl _ _)
  | bl => kat_tups; simpa using h _ (Keep.refl _ _)
  | int => kat_tups; simpa using h _ (Keep.refl _ _)
  | str => kat_tups; simpa using h _ (Keep.refl _ _)
  | @tup d xs hz hp =>
    cases hs _ rfl
    kat_tups
    refine lcF (fun _ => none) (fun _ _ => trivial) (by rw [rangeW_length]; exact s_sz (by omega)) ?_ ?_
    · intro i w S2 Kt Kf hw k hK hK'
      obtain ⟨hi, rfl⟩ := rangeW_inv0 hw
      have e : xs[i]? = some xs[i] := List.getElem?_eq_getElem (by omega)
      keq_rows
      refine c__law_same (hp.get e) fun S' k' => ?_
      keq_rows
      exact hK' _ rfl k'
    · intro S2 k h2
      rw [show ∀ ys : List W, ys.filterMap (fun _ => (none : Option W)) = [] from fun ys => by induction ys with | nil => rfl | cons y ys ih => exact ih] at h2
      keq_rows
      simpa using h _ (k.app_r)
end FC

set_option maxHeartbeats 4000000
namespace L70
open PySem PySem.Spec PyProof.Rows L2 Z
def topS (i : Nat) : Stmt := PySem.Challenge.pw_whoseitis_k70_rewards_by_steps.main.body.getD i (.Pass ⟨0, 0, 0, 0⟩)
/-- the built-ins are not the module's names -/
structure Bl (mg : Str → Option Value) : Prop where
  abs : mg "abs" = none
  bool : mg "bool" = none
  enumerate : mg "enumerate" = none
  int : mg "int" = none
  isinstance : mg "isinstance" = none
  len : mg "len" = none
  max : mg "max" = none
  min : mg "min" = none
  range : mg "range" = none
  sorted : mg "sorted" = none
  str : mg "str" = none
  tuple : mg "tuple" = none
abbrev s_reward : Stmt := topS 1
abbrev nN_reward : List Str := ["value_told", "steps", "hundredths", "at", "begin", "parts", "end"]
theorem sc_reward : FnScope nN_reward ["value_told", "steps"] (defScope s_reward) := ⟨rfl, rfl, rfl, by decide +kernel, rfl, by decide +kernel, by decide +kernel⟩
def t_reward : ZS :=
    (zSeq (zAsg (zC (.int 0)) (zgName 2))
    (zSeq (zFor (zEnumI (zCons (zVar 1) zNil)) (zgTup 2 (zgCons (zgName 3) (zgCons (zgTup 2 (zgCons (zgName 4) (zgCons (zgName 5) zgNil))) zgNil))) (zSeq (zAsg (zVar 0) (zgName 6))
    (zSeq (zIfS (zTb (zOp qLt (zOp qAdd (zVar 3) (zC (.int 1))) (zCall qLen (zCons (zVar 1) zNil)))) (zAsg (zCall qMin2 (zCons (zVar 0) (zCons (zOp qIx (zOp qIx (zVar 1) (zOp qAdd (zVar 3) (zC (.int 1)))) (zC (.int 0))) zNil))) (zgName 6)) zNext)
    (zAug 2 (zOp qMul (zCall qMax2 (zCons (zOp qSub (zVar 6) (zVar 4)) (zCons (zC (.int 0)) zNil))) (zVar 5)) qIAdd))))
    (zRet (zOp qDiv (zVar 2) (zC (.int 100))))))
theorem b_reward {P : Program} {w : World} {K : PySem.W.Frag} {mg : Str → Option Value} {base : Heap} {TB : List Addr} {k : Nat} {f : Addr} (hB : Bl mg) (cdv : Value) (A : Around) (outer : List Env) (s : Shared) (H : Hp) (E : XK)
    (hr : Room k (A.deeper (envOfC "reward" (defScope s_reward) s.heap.objs.size f cdv))) : ZPSs TB (cxOf CX0 P w K mg base nN_reward "reward" (defScope s_reward) f cdv A outer s H E).nox (defBody s_reward) (t_reward ) := by
  have nd := sc_reward.nd
  have h : ∃ t, ZPSs TB (cxOf CX0 P w K mg base nN_reward "reward" (defScope s_reward) f cdv A outer s H E).nox (defBody s_reward) t ∧ t = t_reward  := ⟨_, (zs_cons (z_set (i := 2) nd rfl (Or.inl rfl) z_int)
    (zs_cons (z_for PassesOwn.never rfl (zi_enum (by rfl) hB.enumerate (zpa_cons (z_var 1) zpa_nil)) (zg_tup (n := 2) rfl (zgs_cons (zg_name (i := 3) nd rfl (Or.inl rfl)) (zgs_cons (zg_tup (n := 2) rfl (zgs_cons (zg_name (i := 4) nd rfl (Or.inl rfl)) (zgs_cons (zg_name (i := 5) nd rfl (Or.inl rfl)) zgs_nil))) zgs_nil))) (zs_cons (z_set (i := 6) nd rfl (Or.inl rfl) (z_var 0))
    (zs_cons (z_ifS (z_tcmp (zo_lt hr.units0) (z_op zo_add (z_var 3) z_int) (z_callB zc_len (by rfl) hB.len (by decide +kernel) (zpa_cons (z_var 1) zpa_nil)) (nomark _)) (zs_one (z_set (i := 6) nd rfl (Or.inl rfl) (z_callB (zc_min2 rfl) (by rfl) hB.min (by decide +kernel) (zpa_cons (z_var 0) (zpa_cons (z_ix zi_any (z_ix zi_any (z_var 1) (z_op zo_add (z_var 3) z_int) (fun _ _ => rfl)) z_int (fun _ _ => rfl)) zpa_nil))))) zs_nil)
    (zs_one (z_aug (i := 2) nd rfl (Or.inl rfl) (z_op zo_mul (z_callB (zc_max2 rfl) (by rfl) hB.max (by decide +kernel) (zpa_cons (z_op zo_sub (z_var 6) (z_var 4)) (zpa_cons z_int zpa_nil))) (z_var 5)) zip_add)))))
    (zs_one (z_ret (z_op zo_div (z_var 2) z_int))))), rfl⟩
  obtain ⟨_, h, rfl⟩ := h
  exact h
abbrev s__law_reel : Stmt := topS 3
abbrev nN__law_reel : List Str := ["script", "great", "mixed", "cell"]
theorem sc__law_reel : FnScope nN__law_reel ["script"] (defScope s__law_reel) := ⟨rfl, rfl, rfl, by decide +kernel, rfl, by decide +kernel, by decide +kernel⟩
def t__law_reel : ZS :=
    (zSeq (zAsg (zLst zNil) (zgName 1))
    (zSeq (zAsg (zOp qAdd (zC (.int 7919)) (zCall qLen (zCons (zVar 0) zNil))) (zgName 2))
    (zSeq (zFor (zSeqI (zVar 0)) (zgName 3) (zSeq (zAsg (zOp qMod (zCall qInt (zCons (zOp qAdd (zOp qAdd (zOp qMul (zVar 2) (zC (.int 16807))) (zOp qMod (zCall qInt (zCons (zVar 3) zNil)) (zC (.int 2147483629)))) (zC (.int 13))) zNil)) (zC (.int 2147483647))) (zgName 2))
    (zIfS (zTb (zOp qGe (zCall qAbs (zCons (zCall qInt (zCons (zVar 3) zNil)) zNil)) (zOp qPow (zC (.int 10)) (zC (.int 18))))) (zDrop (zMl qAppend (zVar 1) (zCons (zCall qAbs (zCons (zCall qInt (zCons (zVar 3) zNil)) zNil)) zNil))) zNext)))
    (zRet (zLst (zCons (zVar 1) (zCons (zC (.int 0)) (zCons (zC (.int 0)) (zCons (zVar 2) zNil)))))))))
theorem b__law_reel {P : Program} {w : World} {K : PySem.W.Frag} {mg : Str → Option Value} {base : Heap} {TB : List Addr} {k : Nat} {f : Addr} (hB : Bl mg) (cdv : Value) (A : Around) (outer : List Env) (s : Shared) (H : Hp) (E : XK)
    (hr : Room k (A.deeper (envOfC "_law_reel" (defScope s__law_reel) s.heap.objs.size f cdv))) : ZPSs TB (cxOf CX0 P w K mg base nN__law_reel "_law_reel" (defScope s__law_reel) f cdv A outer s H E).nox (defBody s__law_reel) (t__law_reel ) := by
  have nd := sc__law_reel.nd
  have h : ∃ t, ZPSs TB (cxOf CX0 P w K mg base nN__law_reel "_law_reel" (defScope s__law_reel) f cdv A outer s H E).nox (defBody s__law_reel) t ∧ t = t__law_reel  := ⟨_, (zs_cons (z_set (i := 1) nd rfl (Or.inl rfl) (z_lst zpa_nil))
    (zs_cons (z_set (i := 2) nd rfl (Or.inl rfl) (z_op zo_add z_int (z_callB zc_len (by rfl) hB.len (by decide +kernel) (zpa_cons (z_var 0) zpa_nil))))
    (zs_cons (z_for PassesOwn.never rfl (zi_seq (z_var 0)) (zg_name (i := 3) nd rfl (Or.inl rfl)) (zs_cons (z_set (i := 2) nd rfl (Or.inl rfl) (z_op zo_mod (z_callTy zc_int (by rfl) hB.int (by decide +kernel) (zpa_cons (z_op zo_add (z_op zo_add (z_op zo_mul (z_var 2) z_int) (z_op zo_mod (z_callTy zc_int (by rfl) hB.int (by decide +kernel) (zpa_cons (z_var 3) zpa_nil)) z_int)) z_int) zpa_nil)) z_int))
    (zs_one (z_ifS (z_tcmp zo_ge (z_callB zc_abs (by rfl) hB.abs (by decide +kernel) (zpa_cons (z_callTy zc_int (by rfl) hB.int (by decide +kernel) (zpa_cons (z_var 3) zpa_nil)) zpa_nil)) (z_op zo_pow z_int z_int) (nomark _)) (zs_one (z_expr (z_ml PySem.F.slot_list_append PySem.F.type_list_append zm_append (z_var 1) (zpa_cons (z_callB zc_abs (by rfl) hB.abs (by decide +kernel) (zpa_cons (z_callTy zc_int (by rfl) hB.int (by decide +kernel) (zpa_cons (z_var 3) zpa_nil)) zpa_nil)) zpa_nil)))) zs_nil))))
    (zs_one (z_ret (z_lst (zpa_cons (z_var 1) (zpa_cons z_int (zpa_cons z_int (zpa_cons (z_var 2) zpa_nil)))))))))), rfl⟩
  obtain ⟨_, h, rfl⟩ := h
  exact h
abbrev s__law_take : Stmt := topS 4
abbrev nN__law_take : List Str := ["reel", "many", "digit", "mixed"]
theorem sc__law_take : FnScope nN__law_take ["reel", "many"] (defScope s__law_take) := ⟨rfl, rfl, rfl, by decide +kernel, rfl, by decide +kernel, by decide +kernel⟩
def t__law_take : ZS :=
    (zSeq (zIfS (zAnd (zTb (zOp (qEq false) (zOp qIx (zVar 0) (zC (.int 2))) (zC (.int 0)))) (zTb (zOp qGt (zCall qLen (zCons (zOp qIx (zVar 0) (zC (.int 0))) zNil)) (zC (.int 0))))) (zSeq (zAsg (zMl qPop (zOp qIx (zVar 0) (zC (.int 0))) (zCons (zC (.int 0)) zNil)) (zgSub (zVar 0) (zC (.int 1)) qSetL))
    (zAsg (zC (.int 60)) (zgSub (zVar 0) (zC (.int 2)) qSetL))) zNext)
    (zSeq (zIfS (zTb (zOp qGt (zOp qIx (zVar 0) (zC (.int 2))) (zC (.int 0)))) (zSeq (zAsg (zOp qMod (zCall qInt (zCons (zOp qIx (zVar 0) (zC (.int 1))) zNil)) (zVar 1)) (zgName 2))
    (zSeq (zAsg (zOp qDiv (zOp qIx (zVar 0) (zC (.int 1))) (zVar 1)) (zgSub (zVar 0) (zC (.int 1)) qSetL))
    (zSeq (zAsg (zOp qMul (zOp qSub (zOp qIx (zVar 0) (zC (.int 2))) (zC (.int 1))) (zCall qInt (zCons (zOp qGt (zOp qIx (zVar 0) (zC (.int 1))) (zC (.int 0))) zNil))) (zgSub (zVar 0) (zC (.int 2)) qSetL))
    (zRet (zVar 2))))) zNext)
    (zSeq (zAsg (zOp qMod (zCall qInt (zCons (zOp qAdd (zOp qMul (zOp qIx (zVar 0) (zC (.int 3))) (zC (.int 48271))) (zC (.int 11))) zNil)) (zC (.int 2147483647))) (zgSub (zVar 0) (zC (.int 3)) qSetL))
    (zSeq (zAsg (zOp qMod (zCall qInt (zCons (zOp qAdd (zOp qMul (zOp qIx (zVar 0) (zC (.int 3))) (zC (.int 69621))) (zOp qDiv (zOp qIx (zVar 0) (zC (.int 3))) (zC (.int 65536)))) zNil)) (zC (.int 2147483629))) (zgName 3))
    (zRet (zOp qMod (zCall qInt (zCons (zOp qDiv (zVar 3) (zC (.int 16))) zNil)) (zVar 1)))))))
theorem b__law_take {P : Program} {w : World} {K : PySem.W.Frag} {mg : Str → Option Value} {base : Heap} {TB : List Addr} {k : Nat} {f : Addr} (hB : Bl mg) (cdv : Value) (A : Around) (outer : List Env) (s : Shared) (H : Hp) (E : XK)
    (hr : Room k (A.deeper (envOfC "_law_take" (defScope s__law_take) s.heap.objs.size f cdv))) : ZPSs TB (cxOf CX0 P w K mg base nN__law_take "_law_take" (defScope s__law_take) f cdv A outer s H E).nox (defBody s__law_take) (t__law_take ) := by
  have nd := sc__law_take.nd
  have h : ∃ t, ZPSs TB (cxOf CX0 P w K mg base nN__law_take "_law_take" (defScope s__law_take) f cdv A outer s H E).nox (defBody s__law_take) t ∧ t = t__law_take  := ⟨_, (zs_cons (z_ifS (ZPW.zt (zw_and (z_tcmp (zo_eq hr.units) (z_ix zi_any (z_var 0) z_int (fun _ _ => rfl)) z_int (nomark _)) (zw_and1 (z_tcmp zo_gt (z_callB zc_len (by rfl) hB.len (by decide +kernel) (zpa_cons (z_ix zi_any (z_var 0) z_int (fun _ _ => rfl)) zpa_nil)) z_int (nomark _))))) (zs_cons (z_asg (z_ml PySem.F.slot_list_pop PySem.F.type_list_pop zm_pop (z_ix zi_any (z_var 0) z_int (fun _ _ => rfl)) (zpa_cons z_int zpa_nil)) (zg_subL (z_var 0) z_int))
    (zs_one (z_asg z_int (zg_subL (z_var 0) z_int)))) zs_nil)
    (zs_cons (z_ifS (z_tcmp zo_gt (z_ix zi_any (z_var 0) z_int (fun _ _ => rfl)) z_int (nomark _)) (zs_cons (z_set (i := 2) nd rfl (Or.inl rfl) (z_op zo_mod (z_callTy zc_int (by rfl) hB.int (by decide +kernel) (zpa_cons (z_ix zi_any (z_var 0) z_int (fun _ _ => rfl)) zpa_nil)) (z_var 1)))
    (zs_cons (z_asg (z_op zo_div (z_ix zi_any (z_var 0) z_int (fun _ _ => rfl)) (z_var 1)) (zg_subL (z_var 0) z_int))
    (zs_cons (z_asg (z_op zo_mul (z_op zo_sub (z_ix zi_any (z_var 0) z_int (fun _ _ => rfl)) z_int) (z_callTy zc_int (by rfl) hB.int (by decide +kernel) (zpa_cons (z_cmp zo_gt (z_ix zi_any (z_var 0) z_int (fun _ _ => rfl)) z_int (nomark _)) zpa_nil))) (zg_subL (z_var 0) z_int))
    (zs_one (z_ret (z_var 2)))))) zs_nil)
    (zs_cons (z_asg (z_op zo_mod (z_callTy zc_int (by rfl) hB.int (by decide +kernel) (zpa_cons (z_op zo_add (z_op zo_mul (z_ix zi_any (z_var 0) z_int (fun _ _ => rfl)) z_int) z_int) zpa_nil)) z_int) (zg_subL (z_var 0) z_int))
    (zs_cons (z_set (i := 3) nd rfl (Or.inl rfl) (z_op zo_mod (z_callTy zc_int (by rfl) hB.int (by decide +kernel) (zpa_cons (z_op zo_add (z_op zo_mul (z_ix zi_any (z_var 0) z_int (fun _ _ => rfl)) z_int) (z_op zo_div (z_ix zi_any (z_var 0) z_int (fun _ _ => rfl)) z_int)) zpa_nil)) z_int))
    (zs_one (z_ret (z_op zo_mod (z_callTy zc_int (by rfl) hB.int (by decide +kernel) (zpa_cons (z_op zo_div (z_var 3) z_int) zpa_nil)) (z_var 1)))))))), rfl⟩
  obtain ⟨_, h, rfl⟩ := h
  exact h
abbrev s__law_of : Stmt := topS 5
abbrev nN__law_of : List Str := ["reel", "row"]
theorem sc__law_of : FnScope nN__law_of ["reel", "row"] (defScope s__law_of) := ⟨rfl, rfl, rfl, by decide +kernel, rfl, by decide +kernel, by decide +kernel⟩
def t__law_of (sp__law_take : ZC) : ZS :=
    (zRet (zOp qIx (zVar 1) (zCallF 2 sp__law_take (zCons (zVar 0) (zCons (zCall qLen (zCons (zVar 1) zNil)) zNil)))))
theorem b__law_of {P : Program} {w : World} {K : PySem.W.Frag} {mg : Str → Option Value} {base : Heap} {TB : List Addr} {k : Nat} {f : Addr} {sp__law_take : ZC} (hB : Bl mg) (c__law_take : Cal P w K mg base TB k "_law_take" 2 sp__law_take) (cdv : Value) (A : Around) (outer : List Env) (s : Shared) (H : Hp) (E : XK)
    (hr : Room k (A.deeper (envOfC "_law_of" (defScope s__law_of) s.heap.objs.size f cdv))) : ZPSs TB (cxOf CX0 P w K mg base nN__law_of "_law_of" (defScope s__law_of) f cdv A outer s H E).nox (defBody s__law_of) (t__law_of sp__law_take) := by
  have nd := sc__law_of.nd
  have h : ∃ t, ZPSs TB (cxOf CX0 P w K mg base nN__law_of "_law_of" (defScope s__law_of) f cdv A outer s H E).nox (defBody s__law_of) t ∧ t = t__law_of sp__law_take := ⟨_, (zs_one (z_ret (z_ix zi_any (z_var 1) (z_cal c__law_take hr rfl (zpa_cons (z_var 0) (zpa_cons (z_callB zc_len (by rfl) hB.len (by decide +kernel) (zpa_cons (z_var 1) zpa_nil)) zpa_nil))) (fun _ _ => rfl)))), rfl⟩
  obtain ⟨_, h, rfl⟩ := h
  exact h
abbrev s__law_same : Stmt := topS 6
abbrev nN__law_same : List Str := ["told", "due", "k"]
theorem sc__law_same : FnScope nN__law_same ["told", "due"] (defScope s__law_same) := ⟨rfl, rfl, rfl, by decide +kernel, rfl, by decide +kernel, by decide +kernel⟩
def t__law_same (sp__law_same : ZC) : ZS :=
    (zSeq (zIfS (zTru (zCall qIsi (zCons (zVar 1) (zCons (zC (.ty "tuple")) zNil)))) (zSeq (zIfS (zOr (zNot (zTru (zCall qIsi (zCons (zVar 0) (zCons (zC (.ty "tuple")) zNil))))) (zTb (zOp (qEq true) (zCall qLen (zCons (zVar 0) zNil)) (zCall qLen (zCons (zVar 1) zNil))))) (zRet (zC (.bl false))) zNext)
    (zRet (zOp (qEq false) (zLc (zRngI (zCons (zCall qLen (zCons (zVar 1) zNil)) zNil)) (zgName 2) (zNot (zTru (zCallF 2 sp__law_same (zCons (zOp qIx (zVar 0) (zVar 2)) (zCons (zOp qIx (zVar 1) (zVar 2)) zNil))))) (zVar 2) [2]) (zLst zNil)))) zNext)
    (zSeq (zIfS (zTb (zOp (qIsN false) (zVar 1) (zC .non))) (zRet (zOp (qIsN false) (zVar 0) (zC .non))) zNext)
    (zSeq (zIfS (zTru (zCall qIsi (zCons (zVar 1) (zCons (zC (.ty "bool")) zNil)))) (zRet (zAndV (zCall qIsi (zCons (zVar 0) (zCons (zC (.ty "bool")) zNil))) (zOp (qEq false) (zVar 0) (zVar 1)))) zNext)
    (zSeq (zIfS (zTru (zCall qIsi (zCons (zVar 1) (zCons (zC (.ty "int")) zNil)))) (zRet (zAndV (zCall qIsi (zCons (zVar 0) (zCons (zC (.ty "int")) zNil))) (zAndV (zNotV (zCall qIsi (zCons (zVar 0) (zCons (zC (.ty "bool")) zNil)))) (zOp (qEq false) (zVar 0) (zVar 1))))) zNext)
    (zRet (zAndV (zCall qIsi (zCons (zVar 0) (zCons (zC (.ty "str")) zNil))) (zOp (qEq false) (zVar 0) (zVar 1))))))))
theorem b__law_same {P : Program} {w : World} {K : PySem.W.Frag} {mg : Str → Option Value} {base : Heap} {TB : List Addr} {k : Nat} {f : Addr} {sp__law_same : ZC} (hB : Bl mg) (c__law_same : Cal P w K mg base TB k "_law_same" 2 sp__law_same) (cdv : Value) (A : Around) (outer : List Env) (s : Shared) (H : Hp) (E : XK)
    (hr : Room k (A.deeper (envOfC "_law_same" (defScope s__law_same) s.heap.objs.size f cdv))) : ZPSs TB (cxOf CX0 P w K mg base nN__law_same "_law_same" (defScope s__law_same) f cdv A outer s H E).nox (defBody s__law_same) (t__law_same sp__law_same) := by
  have nd := sc__law_same.nd
  have h : ∃ t, ZPSs TB (cxOf CX0 P w K mg base nN__law_same "_law_same" (defScope s__law_same) f cdv A outer s H E).nox (defBody s__law_same) t ∧ t = t__law_same sp__law_same := ⟨_, (zs_cons (z_ifS (z_truth (z_callB zc_isi (by rfl) hB.isinstance (by decide +kernel) (zpa_cons (z_var 1) (zpa_cons (z_ty (n := "tuple") (by rfl) hB.tuple (by decide +kernel)) zpa_nil)))) (zs_cons (z_ifS (ZPW.zt (zw_or (z_tnot (z_truth (z_callB zc_isi (by rfl) hB.isinstance (by decide +kernel) (zpa_cons (z_var 0) (zpa_cons (z_ty (n := "tuple") (by rfl) hB.tuple (by decide +kernel)) zpa_nil))))) (zw_or1 (z_tcmp (zo_ne hr.units) (z_callB zc_len (by rfl) hB.len (by decide +kernel) (zpa_cons (z_var 0) zpa_nil)) (z_callB zc_len (by rfl) hB.len (by decide +kernel) (zpa_cons (z_var 1) zpa_nil)) (nomark _))))) (zs_one (z_ret z_bl)) zs_nil)
    (zs_one (z_ret (z_cmp (zo_eq hr.units) (z_lc (own := [("k", 2)]) rfl nd (zi_range1 (by rfl) hB.range (zpa_cons (z_callB zc_len (by rfl) hB.len (by decide +kernel) (zpa_cons (z_var 1) zpa_nil)) zpa_nil)) (blkOk_by (N := nN__law_same) (sc := defScope s__law_same) (by decide +kernel)) (fun _ _ _ _ _ => (zgc_name (i := 2) nd rfl (Or.inl rfl) (by decide))) (fun _ _ _ _ _ => (zts_one (z_tnot (z_truth (z_cal c__law_same hr rfl (zpa_cons (z_ix zi_any (z_var 0) (z_var 2) (fun _ _ => rfl)) (zpa_cons (z_ix zi_any (z_var 1) (z_var 2) (fun _ _ => rfl)) zpa_nil))))))) (fun _ _ _ _ _ => (z_var 2))) (z_lst zpa_nil) (nomark _))))) zs_nil)
    (zs_cons (z_ifS (z_tcmp zo_is (z_var 1) z_non (nomark _)) (zs_one (z_ret (z_cmp zo_is (z_var 0) z_non (nomark _)))) zs_nil)
    (zs_cons (z_ifS (z_truth (z_callB zc_isi (by rfl) hB.isinstance (by decide +kernel) (zpa_cons (z_var 1) (zpa_cons (z_ty (n := "bool") (by rfl) hB.bool (by decide +kernel)) zpa_nil)))) (zs_one (z_ret (z_and (z_callB zc_isi (by rfl) hB.isinstance (by decide +kernel) (zpa_cons (z_var 0) (zpa_cons (z_ty (n := "bool") (by rfl) hB.bool (by decide +kernel)) zpa_nil))) (z_one (z_cmp (zo_eq hr.units) (z_var 0) (z_var 1) (nomark _)))))) zs_nil)
    (zs_cons (z_ifS (z_truth (z_callB zc_isi (by rfl) hB.isinstance (by decide +kernel) (zpa_cons (z_var 1) (zpa_cons (z_ty (n := "int") (by rfl) hB.int (by decide +kernel)) zpa_nil)))) (zs_one (z_ret (z_and (z_callB zc_isi (by rfl) hB.isinstance (by decide +kernel) (zpa_cons (z_var 0) (zpa_cons (z_ty (n := "int") (by rfl) hB.int (by decide +kernel)) zpa_nil))) (z_and (z_not (z_callB zc_isi (by rfl) hB.isinstance (by decide +kernel) (zpa_cons (z_var 0) (zpa_cons (z_ty (n := "bool") (by rfl) hB.bool (by decide +kernel)) zpa_nil)))) (z_one (z_cmp (zo_eq hr.units) (z_var 0) (z_var 1) (nomark _))))))) zs_nil)
    (zs_one (z_ret (z_and (z_callB zc_isi (by rfl) hB.isinstance (by decide +kernel) (zpa_cons (z_var 0) (zpa_cons (z_ty (n := "str") (by rfl) hB.str (by decide +kernel)) zpa_nil))) (z_one (z_cmp (zo_eq hr.units) (z_var 0) (z_var 1) (nomark _)))))))))), rfl⟩
  obtain ⟨_, h, rfl⟩ := h
  exact h
abbrev s__law_sum : Stmt := topS 7
abbrev nN__law_sum : List Str := ["value", "steps", "total", "k", "begin", "parts", "end"]
theorem sc__law_sum : FnScope nN__law_sum ["value", "steps"] (defScope s__law_sum) := ⟨rfl, rfl, rfl, by decide +kernel, rfl, by decide +kernel, by decide +kernel⟩
def t__law_sum : ZS :=
    (zSeq (zAsg (zC (.int 0)) (zgName 2))
    (zSeq (zFor (zRngI (zCons (zCall qLen (zCons (zVar 1) zNil)) zNil)) (zgName 3) (zSeq (zAsg (zOp qIx (zVar 1) (zVar 3)) (zgTup 2 (zgCons (zgName 4) (zgCons (zgName 5) zgNil))))
    (zSeq (zAsg (zIf (zTb (zOp (qEq false) (zOp qAdd (zVar 3) (zC (.int 1))) (zCall qLen (zCons (zVar 1) zNil)))) (zVar 0) (zCall qMin2 (zCons (zVar 0) (zCons (zOp qIx (zOp qIx (zVar 1) (zOp qAdd (zVar 3) (zC (.int 1)))) (zC (.int 0))) zNil)))) (zgName 6))
    (zAsg (zOp qAdd (zVar 2) (zOp qMul (zVar 5) (zCall qMax2 (zCons (zC (.int 0)) (zCons (zOp qSub (zVar 6) (zVar 4)) zNil))))) (zgName 2)))))
    (zRet (zVar 2))))
theorem b__law_sum {P : Program} {w : World} {K : PySem.W.Frag} {mg : Str → Option Value} {base : Heap} {TB : List Addr} {k : Nat} {f : Addr} (hB : Bl mg) (cdv : Value) (A : Around) (outer : List Env) (s : Shared) (H : Hp) (E : XK)
    (hr : Room k (A.deeper (envOfC "_law_sum" (defScope s__law_sum) s.heap.objs.size f cdv))) : ZPSs TB (cxOf CX0 P w K mg base nN__law_sum "_law_sum" (defScope s__law_sum) f cdv A outer s H E).nox (defBody s__law_sum) (t__law_sum ) := by
  have nd := sc__law_sum.nd
  have h : ∃ t, ZPSs TB (cxOf CX0 P w K mg base nN__law_sum "_law_sum" (defScope s__law_sum) f cdv A outer s H E).nox (defBody s__law_sum) t ∧ t = t__law_sum  := ⟨_, (zs_cons (z_set (i := 2) nd rfl (Or.inl rfl) z_int)
    (zs_cons (z_for PassesOwn.never rfl (zi_range1 (by rfl) hB.range (zpa_cons (z_callB zc_len (by rfl) hB.len (by decide +kernel) (zpa_cons (z_var 1) zpa_nil)) zpa_nil)) (zg_name (i := 3) nd rfl (Or.inl rfl)) (zs_cons (z_asg (z_ix zi_any (z_var 1) (z_var 3) (fun _ _ => rfl)) (zg_tup (n := 2) rfl (zgs_cons (zg_name (i := 4) nd rfl (Or.inl rfl)) (zgs_cons (zg_name (i := 5) nd rfl (Or.inl rfl)) zgs_nil))))
    (zs_cons (z_set (i := 6) nd rfl (Or.inl rfl) (z_if (z_tcmp (zo_eq hr.units) (z_op zo_add (z_var 3) z_int) (z_callB zc_len (by rfl) hB.len (by decide +kernel) (zpa_cons (z_var 1) zpa_nil)) (nomark _)) (z_var 0) (z_callB (zc_min2 rfl) (by rfl) hB.min (by decide +kernel) (zpa_cons (z_var 0) (zpa_cons (z_ix zi_any (z_ix zi_any (z_var 1) (z_op zo_add (z_var 3) z_int) (fun _ _ => rfl)) z_int (fun _ _ => rfl)) zpa_nil)))))
    (zs_one (z_set (i := 2) nd rfl (Or.inl rfl) (z_op zo_add (z_var 2) (z_op zo_mul (z_var 5) (z_callB (zc_max2 rfl) (by rfl) hB.max (by decide +kernel) (zpa_cons z_int (zpa_cons (z_op zo_sub (z_var 6) (z_var 4)) zpa_nil))))))))))
    (zs_one (z_ret (z_var 2))))), rfl⟩
  obtain ⟨_, h, rfl⟩ := h
  exact h
abbrev s__law_steps : Stmt := topS 8
abbrev nN__law_steps : List Str := ["reel", "found", "begin", "k"]
theorem sc__law_steps : FnScope nN__law_steps ["reel"] (defScope s__law_steps) := ⟨rfl, rfl, rfl, by decide +kernel, rfl, by decide +kernel, by decide +kernel⟩
def t__law_steps (sp__law_of sp__law_take : ZC) : ZS :=
    (zSeq (zPar 1 2 (zCons (zLst (zCons (zTup (zCons (zC (.int 0)) (zCons (zCallF 2 sp__law_of (zCons (zVar 0) (zCons (zLst (zCons (zC (.int 10)) (zCons (zC (.int 0)) (zCons (zC (.int 1)) (zCons (zC (.int 100)) (zCons (zC (.int 33)) (zCons (zC (.int 1000)) zNil))))))) zNil))) zNil))) zNil)) (zCons (zC (.int 0)) zNil)))
    (zSeq (zFor (zRngI (zCons (zCallF 2 sp__law_take (zCons (zVar 0) (zCons (zC (.int 6)) zNil))) zNil)) (zgName 3) (zSeq (zAsg (zOp qAdd (zVar 2) (zCallF 2 sp__law_of (zCons (zVar 0) (zCons (zLst (zCons (zC (.int 1)) (zCons (zC (.int 2)) (zCons (zC (.int 3)) (zCons (zC (.int 10)) (zCons (zC (.int 99)) (zCons (zC (.int 500)) (zCons (zOp qPow (zC (.int 10)) (zC (.int 20))) zNil)))))))) zNil)))) (zgName 2))
    (zDrop (zMl qAppend (zVar 1) (zCons (zTup (zCons (zVar 2) (zCons (zCallF 2 sp__law_of (zCons (zVar 0) (zCons (zLst (zCons (zC (.int 5)) (zCons (zC (.int 0)) (zCons (zC (.int 1)) (zCons (zC (.int 3)) (zCons (zC (.int 50)) (zCons (zC (.int 100)) (zCons (zC (.int 250)) zNil)))))))) zNil))) zNil))) zNil)))))
    (zRet (zCall qTup (zCons (zVar 1) zNil)))))
theorem b__law_steps {P : Program} {w : World} {K : PySem.W.Frag} {mg : Str → Option Value} {base : Heap} {TB : List Addr} {k : Nat} {f : Addr} {sp__law_of sp__law_take : ZC} (hB : Bl mg) (c__law_of : Cal P w K mg base TB k "_law_of" 2 sp__law_of) (c__law_take : Cal P w K mg base TB k "_law_take" 2 sp__law_take) (cdv : Value) (A : Around) (outer : List Env) (s : Shared) (H : Hp) (E : XK)
    (hr : Room k (A.deeper (envOfC "_law_steps" (defScope s__law_steps) s.heap.objs.size f cdv))) : ZPSs TB (cxOf CX0 P w K mg base nN__law_steps "_law_steps" (defScope s__law_steps) f cdv A outer s H E).nox (defBody s__law_steps) (t__law_steps sp__law_of sp__law_take) := by
  have nd := sc__law_steps.nd
  have h : ∃ t, ZPSs TB (cxOf CX0 P w K mg base nN__law_steps "_law_steps" (defScope s__law_steps) f cdv A outer s H E).nox (defBody s__law_steps) t ∧ t = t__law_steps sp__law_of sp__law_take := ⟨_, (zs_cons (z_par (i := 1) (j := 2) rfl nd rfl rfl (by decide) rfl rfl (zpa_cons (z_lst (zpa_cons (z_tup (zpa_cons z_int (zpa_cons (z_cal c__law_of hr rfl (zpa_cons (z_var 0) (zpa_cons (z_lst (zpa_cons z_int (zpa_cons z_int (zpa_cons z_int (zpa_cons z_int (zpa_cons z_int (zpa_cons z_int zpa_nil))))))) zpa_nil))) zpa_nil))) zpa_nil)) (zpa_cons z_int zpa_nil)) (by rfl))
    (zs_cons (z_for PassesOwn.never rfl (zi_range1 (by rfl) hB.range (zpa_cons (z_cal c__law_take hr rfl (zpa_cons (z_var 0) (zpa_cons z_int zpa_nil))) zpa_nil)) (zg_name (i := 3) nd rfl (Or.inl rfl)) (zs_cons (z_set (i := 2) nd rfl (Or.inl rfl) (z_op zo_add (z_var 2) (z_cal c__law_of hr rfl (zpa_cons (z_var 0) (zpa_cons (z_lst (zpa_cons z_int (zpa_cons z_int (zpa_cons z_int (zpa_cons z_int (zpa_cons z_int (zpa_cons z_int (zpa_cons (z_op zo_pow z_int z_int) zpa_nil)))))))) zpa_nil)))))
    (zs_one (z_expr (z_ml PySem.F.slot_list_append PySem.F.type_list_append zm_append (z_var 1) (zpa_cons (z_tup (zpa_cons (z_var 2) (zpa_cons (z_cal c__law_of hr rfl (zpa_cons (z_var 0) (zpa_cons (z_lst (zpa_cons z_int (zpa_cons z_int (zpa_cons z_int (zpa_cons z_int (zpa_cons z_int (zpa_cons z_int (zpa_cons z_int zpa_nil)))))))) zpa_nil))) zpa_nil))) zpa_nil))))))
    (zs_one (z_ret (z_callTy zc_tup (by rfl) hB.tuple (by decide +kernel) (zpa_cons (z_var 1) zpa_nil)))))), rfl⟩
  obtain ⟨_, h, rfl⟩ := h
  exact h
abbrev s__law_parts_at : Stmt := topS 9
abbrev nN__law_parts_at : List Str := ["value", "steps", "begin", "parts"]
theorem sc__law_parts_at : FnScope nN__law_parts_at ["value", "steps"] (defScope s__law_parts_at) := ⟨rfl, rfl, rfl, by decide +kernel, rfl, by decide +kernel, by decide +kernel⟩
def t__law_parts_at : ZS :=
    (zRet (zOp qIx (zLc (zSeqI (zVar 1)) (zgTup 2 (zgCons (zgName 2) (zgCons (zgName 3) zgNil))) (zTb (zOp qLeI (zVar 2) (zVar 0))) (zVar 3) [2, 3]) (zUn qNeg (zC (.int 1)))))
theorem b__law_parts_at {P : Program} {w : World} {K : PySem.W.Frag} {mg : Str → Option Value} {base : Heap} {TB : List Addr} {k : Nat} {f : Addr} (cdv : Value) (A : Around) (outer : List Env) (s : Shared) (H : Hp) (E : XK)
    (hr : Room k (A.deeper (envOfC "_law_parts_at" (defScope s__law_parts_at) s.heap.objs.size f cdv))) : ZPSs TB (cxOf CX0 P w K mg base nN__law_parts_at "_law_parts_at" (defScope s__law_parts_at) f cdv A outer s H E).nox (defBody s__law_parts_at) (t__law_parts_at ) := by
  have nd := sc__law_parts_at.nd
  have h : ∃ t, ZPSs TB (cxOf CX0 P w K mg base nN__law_parts_at "_law_parts_at" (defScope s__law_parts_at) f cdv A outer s H E).nox (defBody s__law_parts_at) t ∧ t = t__law_parts_at  := ⟨_, (zs_one (z_ret (z_ix zi_any (z_lc (own := [("begin", 2), ("parts", 3)]) rfl nd (zi_seq (z_var 1)) (blkOk_by (N := nN__law_parts_at) (sc := defScope s__law_parts_at) (by decide +kernel)) (fun _ _ _ _ _ => (zgc_tup (n := 2) rfl (zgcs_cons (zgc_name (i := 2) nd rfl (Or.inl rfl) (by decide)) (zgcs_cons (zgc_name (i := 3) nd rfl (Or.inl rfl) (by decide)) zgcs_nil)))) (fun _ _ _ _ _ => (zts_one (z_tcmp zo_le (z_var 2) (z_var 0) (nomark _)))) (fun _ _ _ _ _ => (z_var 3))) (z_un zo_neg z_int) (fun _ _ => rfl)))), rfl⟩
  obtain ⟨_, h, rfl⟩ := h
  exact h
abbrev s_law : Stmt := topS 10
abbrev nN_law : List Str := ["script", "reel", "steps", "values", "begin", "parts", "hundred", "last", "value", "total", "told", "k", "room", "cut", "longer", "other", "both"]
theorem sc_law : FnScope nN_law ["script"] (defScope s_law) := ⟨rfl, rfl, rfl, by decide +kernel, rfl, by decide +kernel, by decide +kernel⟩
def t_law (sp__law_reel sp__law_steps sp__law_take sp__law_sum sp_reward sp__law_same sp__law_parts_at sp__law_of : ZC) : ZS :=
    (zSeq (zAsg (zCallF 1 sp__law_reel (zCons (zVar 0) zNil)) (zgName 1))
    (zSeq (zAsg (zCallF 1 sp__law_steps (zCons (zVar 1) zNil)) (zgName 2))
    (zSeq (zAsg (zLst (zCons (zC (.int 0)) (zCons (zC (.int 1)) (zCons (zC (.int 99)) (zCons (zC (.int 100)) (zCons (zCallF 2 sp__law_take (zCons (zVar 1) (zCons (zOp qPow (zC (.int 10)) (zC (.int 6))) zNil))) (zCons (zCallF 2 sp__law_take (zCons (zVar 1) (zCons (zOp qPow (zC (.int 10)) (zC (.int 50))) zNil))) zNil))))))) (zgName 3))
    (zSeq (zFor (zSeqI (zVar 2)) (zgTup 2 (zgCons (zgName 4) (zgCons (zgName 5) zgNil))) (zAsg (zOp qAdd (zVar 3) (zLst (zCons (zCall qMax2 (zCons (zC (.int 0)) (zCons (zOp qSub (zVar 4) (zC (.int 1))) zNil))) (zCons (zVar 4) (zCons (zOp qAdd (zVar 4) (zC (.int 1))) (zCons (zOp qAdd (zVar 4) (zCallF 2 sp__law_take (zCons (zVar 1) (zCons (zC (.int 200)) zNil)))) zNil)))))) (zgName 3)))
    (zSeq (zAsg (zCall qTup (zCons (zLc (zSeqI (zVar 2)) (zgTup 2 (zgCons (zgName 4) (zgCons (zgName 5) zgNil))) (fun _ S K => K true S) (zTup (zCons (zVar 4) (zCons (zOp qMul (zC (.int 100)) (zVar 5)) zNil))) [4, 5]) zNil)) (zgName 6))
    (zSeq (zAsg (zC .non) (zgName 7))
    (zSeq (zFor (zSeqI (zCall qSorted (zCons (zVar 3) zNil))) (zgName 8) (zSeq (zAsg (zCallF 2 sp__law_sum (zCons (zVar 8) (zCons (zVar 2) zNil))) (zgName 9))
    (zSeq (zAsg (zCallF 2 sp_reward (zCons (zVar 8) (zCons (zVar 2) zNil))) (zgName 10))
    (zSeq (zIfS (zOr (zNot (zTru (zCallF 2 sp__law_same (zCons (zVar 10) (zCons (zOp qDiv (zVar 9) (zC (.int 100))) zNil))))) (zNot (zTru (zCallF 2 sp__law_same (zCons (zCallK 2 [1, 0] sp_reward (zCons (zVar 6) (zCons (zVar 8) zNil))) (zCons (zVar 9) zNil)))))) (zRet (zC (.bl false))) zNext)
    (zSeq (zIfS (zNot (zTru (zCallF 2 sp__law_same (zCons (zOp qSub (zCallF 2 sp_reward (zCons (zOp qAdd (zVar 8) (zC (.int 1))) (zCons (zVar 6) zNil))) (zVar 9)) (zCons (zCallF 2 sp__law_parts_at (zCons (zVar 8) (zCons (zVar 2) zNil))) zNil))))) (zRet (zC (.bl false))) zNext)
    (zSeq (zIfS (zAnd (zTb (zOp (qIsN true) (zVar 7) (zC .non))) (zTb (zOp qLt (zVar 10) (zVar 7)))) (zRet (zC (.bl false))) zNext)
    (zAsg (zVar 10) (zgName 7))))))))
    (zSeq (zAsg (zCallF 2 sp__law_take (zCons (zVar 1) (zCons (zCall qLen (zCons (zVar 2) zNil)) zNil))) (zgName 11))
    (zSeq (zAsg (zOp qIx (zVar 2) (zVar 11)) (zgTup 2 (zgCons (zgName 4) (zgCons (zgName 5) zgNil))))
    (zSeq (zAsg (zIf (zTb (zOp qLt (zOp qAdd (zVar 11) (zC (.int 1))) (zCall qLen (zCons (zVar 2) zNil)))) (zOp qSub (zOp qIx (zOp qIx (zVar 2) (zOp qAdd (zVar 11) (zC (.int 1)))) (zC (.int 0))) (zVar 4)) (zOp qPow (zC (.int 10)) (zC (.int 6)))) (zgName 12))
    (zSeq (zIfS (zTb (zOp qGt (zVar 12) (zC (.int 1)))) (zSeq (zAsg (zOp qAdd (zOp qAdd (zVar 4) (zC (.int 1))) (zCallF 2 sp__law_take (zCons (zVar 1) (zCons (zOp qSub (zVar 12) (zC (.int 1))) zNil)))) (zgName 13))
    (zSeq (zAsg (zOp qAdd (zOp qAdd (zSl (zVar 2) zNoPart (zPart (zOp qAdd (zVar 11) (zC (.int 1))))) (zTup (zCons (zTup (zCons (zVar 13) (zCons (zVar 5) zNil))) zNil))) (zSl (zVar 2) (zPart (zOp qAdd (zVar 11) (zC (.int 1)))) zNoPart)) (zgName 14))
    (zFor (zSeqI (zVar 3)) (zgName 8) (zIfS (zNot (zTru (zCallF 2 sp__law_same (zCons (zCallF 2 sp_reward (zCons (zVar 8) (zCons (zVar 14) zNil))) (zCons (zOp qDiv (zCallF 2 sp__law_sum (zCons (zVar 8) (zCons (zVar 2) zNil))) (zC (.int 100))) zNil))))) (zRet (zC (.bl false))) zNext)))) zNext)
    (zSeq (zAsg (zCall qTup (zCons (zLc (zSeqI (zVar 2)) (zgTup 2 (zgCons (zgName 4) (zgCons (zgName 5) zgNil))) (fun _ S K => K true S) (zTup (zCons (zVar 4) (zCons (zCallF 2 sp__law_of (zCons (zVar 1) (zCons (zLst (zCons (zC (.int 0)) (zCons (zC (.int 7)) (zCons (zC (.int 100)) (zCons (zC (.int 12)) zNil))))) zNil))) zNil))) [4, 5]) zNil)) (zgName 15))
    (zSeq (zAsg (zCall qTup (zCons (zLc (zRngI (zCons (zCall qLen (zCons (zVar 2) zNil)) zNil)) (zgName 11) (fun _ S K => K true S) (zTup (zCons (zOp qIx (zOp qIx (zVar 2) (zVar 11)) (zC (.int 0))) (zCons (zOp qAdd (zOp qMul (zC (.int 100)) (zOp qIx (zOp qIx (zVar 2) (zVar 11)) (zC (.int 1)))) (zOp qMul (zC (.int 100)) (zOp qIx (zOp qIx (zVar 15) (zVar 11)) (zC (.int 1))))) zNil))) [11]) zNil)) (zgName 16))
    (zSeq (zFor (zSeqI (zSl (zVar 3) zNoPart (zPart (zC (.int 6))))) (zgName 8) (zIfS (zNot (zTru (zCallF 2 sp__law_same (zCons (zCallF 2 sp_reward (zCons (zVar 8) (zCons (zVar 16) zNil))) (zCons (zOp qAdd (zCallF 2 sp__law_sum (zCons (zVar 8) (zCons (zVar 2) zNil))) (zCallF 2 sp__law_sum (zCons (zVar 8) (zCons (zVar 15) zNil)))) zNil))))) (zRet (zC (.bl false))) zNext))
    (zSeq (zPar 8 5 (zCons (zCallF 2 sp__law_of (zCons (zVar 1) (zCons (zVar 3) zNil))) (zCons (zCallF 2 sp__law_take (zCons (zVar 1) (zCons (zC (.int 200)) zNil))) zNil)))
    (zRet (zCallF 2 sp__law_same (zCons (zCallF 2 sp_reward (zCons (zVar 8) (zCons (zTup (zCons (zTup (zCons (zC (.int 0)) (zCons (zVar 5) zNil))) zNil)) zNil))) (zCons (zOp qDiv (zOp qMul (zVar 8) (zVar 5)) (zC (.int 100))) zNil)))))))))))))))))))
theorem b_law {P : Program} {w : World} {K : PySem.W.Frag} {mg : Str → Option Value} {base : Heap} {TB : List Addr} {k : Nat} {f : Addr} {sp__law_reel sp__law_steps sp__law_take sp__law_sum sp_reward sp__law_same sp__law_parts_at sp__law_of : ZC} (hB : Bl mg) (c__law_reel : Cal P w K mg base TB k "_law_reel" 1 sp__law_reel) (c__law_steps : Cal P w K mg base TB k "_law_steps" 1 sp__law_steps) (c__law_take : Cal P w K mg base TB k "_law_take" 2 sp__law_take) (c__law_sum : Cal P w K mg base TB k "_law_sum" 2 sp__law_sum) (c_reward : Cal P w K mg base TB k "reward" 2 sp_reward) (c__law_same : Cal P w K mg base TB k "_law_same" 2 sp__law_same) (c__law_parts_at : Cal P w K mg base TB k "_law_parts_at" 2 sp__law_parts_at) (c__law_of : Cal P w K mg base TB k "_law_of" 2 sp__law_of) (k_reward : CalK P w K mg base TB k "reward" 2 ["steps", "value_told"] [1, 0] sp_reward) (cdv : Value) (A : Around) (outer : List Env) (s : Shared) (H : Hp) (E : XK)
    (hr : Room k (A.deeper (envOfC "law" (defScope s_law) s.heap.objs.size f cdv))) : ZPSs TB (cxOf CX0 P w K mg base nN_law "law" (defScope s_law) f cdv A outer s H E).nox (defBody s_law) (t_law sp__law_reel sp__law_steps sp__law_take sp__law_sum sp_reward sp__law_same sp__law_parts_at sp__law_of) := by
  have nd := sc_law.nd
  have h : ∃ t, ZPSs TB (cxOf CX0 P w K mg base nN_law "law" (defScope s_law) f cdv A outer s H E).nox (defBody s_law) t ∧ t = t_law sp__law_reel sp__law_steps sp__law_take sp__law_sum sp_reward sp__law_same sp__law_parts_at sp__law_of := ⟨_, (zs_cons (z_set (i := 1) nd rfl (Or.inr rfl) (z_cal c__law_reel hr rfl (zpa_cons (z_var 0) zpa_nil)))
    (zs_cons (z_set (i := 2) nd rfl (Or.inr rfl) (z_cal c__law_steps hr rfl (zpa_cons (z_var 1) zpa_nil)))
    (zs_cons (z_set (i := 3) nd rfl (Or.inl rfl) (z_lst (zpa_cons z_int (zpa_cons z_int (zpa_cons z_int (zpa_cons z_int (zpa_cons (z_cal c__law_take hr rfl (zpa_cons (z_var 1) (zpa_cons (z_op zo_pow z_int z_int) zpa_nil))) (zpa_cons (z_cal c__law_take hr rfl (zpa_cons (z_var 1) (zpa_cons (z_op zo_pow z_int z_int) zpa_nil))) zpa_nil))))))))
    (zs_cons (z_for PassesOwn.never rfl (zi_seq (z_var 2)) (zg_tup (n := 2) rfl (zgs_cons (zg_name (i := 4) nd rfl (Or.inl rfl)) (zgs_cons (zg_name (i := 5) nd rfl (Or.inl rfl)) zgs_nil))) (zs_one (z_set (i := 3) nd rfl (Or.inl rfl) (z_op zo_add (z_var 3) (z_lst (zpa_cons (z_callB (zc_max2 rfl) (by rfl) hB.max (by decide +kernel) (zpa_cons z_int (zpa_cons (z_op zo_sub (z_var 4) z_int) zpa_nil))) (zpa_cons (z_var 4) (zpa_cons (z_op zo_add (z_var 4) z_int) (zpa_cons (z_op zo_add (z_var 4) (z_cal c__law_take hr rfl (zpa_cons (z_var 1) (zpa_cons z_int zpa_nil)))) zpa_nil)))))))))
    (zs_cons (z_set (i := 6) nd rfl (Or.inl rfl) (z_callTy zc_tup (by rfl) hB.tuple (by decide +kernel) (zpa_cons (z_lc (own := [("begin", 4), ("parts", 5)]) rfl nd (zi_seq (z_var 2)) (blkOk_by (N := nN_law) (sc := defScope s_law) (by decide +kernel)) (fun _ _ _ _ _ => (zgc_tup (n := 2) rfl (zgcs_cons (zgc_name (i := 4) nd rfl (Or.inl rfl) (by decide)) (zgcs_cons (zgc_name (i := 5) nd rfl (Or.inl rfl) (by decide)) zgcs_nil)))) (fun _ _ _ _ _ => zts_nil) (fun _ _ _ _ _ => (z_tup (zpa_cons (z_var 4) (zpa_cons (z_op zo_mul z_int (z_var 5)) zpa_nil))))) zpa_nil)))
    (zs_cons (z_set (i := 7) nd rfl (Or.inl rfl) z_non)
    (zs_cons (z_for PassesOwn.never rfl (zi_seq (z_callB (zc_sorted hr rfl) (by rfl) hB.sorted (by decide +kernel) (zpa_cons (z_var 3) zpa_nil))) (zg_name (i := 8) nd rfl (Or.inl rfl)) (zs_cons (z_set (i := 9) nd rfl (Or.inl rfl) (z_cal c__law_sum hr rfl (zpa_cons (z_var 8) (zpa_cons (z_var 2) zpa_nil))))
    (zs_cons (z_set (i := 10) nd rfl (Or.inl rfl) (z_cal c_reward hr rfl (zpa_cons (z_var 8) (zpa_cons (z_var 2) zpa_nil))))
    (zs_cons (z_ifS (ZPW.zt (zw_or (z_tnot (z_truth (z_cal c__law_same hr rfl (zpa_cons (z_var 10) (zpa_cons (z_op zo_div (z_var 9) z_int) zpa_nil))))) (zw_or1 (z_tnot (z_truth (z_cal c__law_same hr rfl (zpa_cons (z_calK k_reward hr rfl (zpk_cons (z_var 6) (zpk_cons (z_var 8) zpk_nil))) (zpa_cons (z_var 9) zpa_nil)))))))) (zs_one (z_ret z_bl)) zs_nil)
    (zs_cons (z_ifS (z_tnot (z_truth (z_cal c__law_same hr rfl (zpa_cons (z_op zo_sub (z_cal c_reward hr rfl (zpa_cons (z_op zo_add (z_var 8) z_int) (zpa_cons (z_var 6) zpa_nil))) (z_var 9)) (zpa_cons (z_cal c__law_parts_at hr rfl (zpa_cons (z_var 8) (zpa_cons (z_var 2) zpa_nil))) zpa_nil))))) (zs_one (z_ret z_bl)) zs_nil)
    (zs_cons (z_ifS (ZPW.zt (zw_and (z_tcmp zo_isnot (z_var 7) z_non (nomark _)) (zw_and1 (z_tcmp (zo_lt hr.units0) (z_var 10) (z_var 7) (nomark _))))) (zs_one (z_ret z_bl)) zs_nil)
    (zs_one (z_set (i := 7) nd rfl (Or.inl rfl) (z_var 10)))))))))
    (zs_cons (z_set (i := 11) nd rfl (Or.inl rfl) (z_cal c__law_take hr rfl (zpa_cons (z_var 1) (zpa_cons (z_callB zc_len (by rfl) hB.len (by decide +kernel) (zpa_cons (z_var 2) zpa_nil)) zpa_nil))))
    (zs_cons (z_asg (z_ix zi_any (z_var 2) (z_var 11) (fun _ _ => rfl)) (zg_tup (n := 2) rfl (zgs_cons (zg_name (i := 4) nd rfl (Or.inl rfl)) (zgs_cons (zg_name (i := 5) nd rfl (Or.inl rfl)) zgs_nil))))
    (zs_cons (z_set (i := 12) nd rfl (Or.inl rfl) (z_if (z_tcmp (zo_lt hr.units0) (z_op zo_add (z_var 11) z_int) (z_callB zc_len (by rfl) hB.len (by decide +kernel) (zpa_cons (z_var 2) zpa_nil)) (nomark _)) (z_op zo_sub (z_ix zi_any (z_ix zi_any (z_var 2) (z_op zo_add (z_var 11) z_int) (fun _ _ => rfl)) z_int (fun _ _ => rfl)) (z_var 4)) (z_op zo_pow z_int z_int)))
    (zs_cons (z_ifS (z_tcmp zo_gt (z_var 12) z_int (nomark _)) (zs_cons (z_set (i := 13) nd rfl (Or.inl rfl) (z_op zo_add (z_op zo_add (z_var 4) z_int) (z_cal c__law_take hr rfl (zpa_cons (z_var 1) (zpa_cons (z_op zo_sub (z_var 12) z_int) zpa_nil)))))
    (zs_cons (z_set (i := 14) nd rfl (Or.inl rfl) (z_op zo_add (z_op zo_add (z_sl (z_var 2) zpo_none (zpo_some (z_op zo_add (z_var 11) z_int))) (z_tup (zpa_cons (z_tup (zpa_cons (z_var 13) (zpa_cons (z_var 5) zpa_nil))) zpa_nil))) (z_sl (z_var 2) (zpo_some (z_op zo_add (z_var 11) z_int)) zpo_none)))
    (zs_one (z_for PassesOwn.never rfl (zi_seq (z_var 3)) (zg_name (i := 8) nd rfl (Or.inl rfl)) (zs_one (z_ifS (z_tnot (z_truth (z_cal c__law_same hr rfl (zpa_cons (z_cal c_reward hr rfl (zpa_cons (z_var 8) (zpa_cons (z_var 14) zpa_nil))) (zpa_cons (z_op zo_div (z_cal c__law_sum hr rfl (zpa_cons (z_var 8) (zpa_cons (z_var 2) zpa_nil))) z_int) zpa_nil))))) (zs_one (z_ret z_bl)) zs_nil)))))) zs_nil)
    (zs_cons (z_set (i := 15) nd rfl (Or.inr rfl) (z_callTy zc_tup (by rfl) hB.tuple (by decide +kernel) (zpa_cons (z_lc (own := [("begin", 4), ("parts", 5)]) rfl nd (zi_seq (z_var 2)) (blkOk_by (N := nN_law) (sc := defScope s_law) (by decide +kernel)) (fun _ _ _ _ _ => (zgc_tup (n := 2) rfl (zgcs_cons (zgc_name (i := 4) nd rfl (Or.inl rfl) (by decide)) (zgcs_cons (zgc_name (i := 5) nd rfl (Or.inl rfl) (by decide)) zgcs_nil)))) (fun _ _ _ _ _ => zts_nil) (fun _ _ _ _ _ => (z_tup (zpa_cons (z_var 4) (zpa_cons (z_cal c__law_of hr rfl (zpa_cons (z_var 1) (zpa_cons (z_lst (zpa_cons z_int (zpa_cons z_int (zpa_cons z_int (zpa_cons z_int zpa_nil))))) zpa_nil))) zpa_nil))))) zpa_nil)))
    (zs_cons (z_set (i := 16) nd rfl (Or.inl rfl) (z_callTy zc_tup (by rfl) hB.tuple (by decide +kernel) (zpa_cons (z_lc (own := [("k", 11)]) rfl nd (zi_range1 (by rfl) hB.range (zpa_cons (z_callB zc_len (by rfl) hB.len (by decide +kernel) (zpa_cons (z_var 2) zpa_nil)) zpa_nil)) (blkOk_by (N := nN_law) (sc := defScope s_law) (by decide +kernel)) (fun _ _ _ _ _ => (zgc_name (i := 11) nd rfl (Or.inl rfl) (by decide))) (fun _ _ _ _ _ => zts_nil) (fun _ _ _ _ _ => (z_tup (zpa_cons (z_ix zi_any (z_ix zi_any (z_var 2) (z_var 11) (fun _ _ => rfl)) z_int (fun _ _ => rfl)) (zpa_cons (z_op zo_add (z_op zo_mul z_int (z_ix zi_any (z_ix zi_any (z_var 2) (z_var 11) (fun _ _ => rfl)) z_int (fun _ _ => rfl))) (z_op zo_mul z_int (z_ix zi_any (z_ix zi_any (z_var 15) (z_var 11) (fun _ _ => rfl)) z_int (fun _ _ => rfl)))) zpa_nil))))) zpa_nil)))
    (zs_cons (z_for PassesOwn.never rfl (zi_seq (z_sl (z_var 3) zpo_none (zpo_some z_int))) (zg_name (i := 8) nd rfl (Or.inl rfl)) (zs_one (z_ifS (z_tnot (z_truth (z_cal c__law_same hr rfl (zpa_cons (z_cal c_reward hr rfl (zpa_cons (z_var 8) (zpa_cons (z_var 16) zpa_nil))) (zpa_cons (z_op zo_add (z_cal c__law_sum hr rfl (zpa_cons (z_var 8) (zpa_cons (z_var 2) zpa_nil))) (z_cal c__law_sum hr rfl (zpa_cons (z_var 8) (zpa_cons (z_var 15) zpa_nil)))) zpa_nil))))) (zs_one (z_ret z_bl)) zs_nil)))
    (zs_cons (z_par (i := 8) (j := 5) rfl nd rfl rfl (by decide) rfl rfl (zpa_cons (z_cal c__law_of hr rfl (zpa_cons (z_var 1) (zpa_cons (z_var 3) zpa_nil))) (zpa_cons (z_cal c__law_take hr rfl (zpa_cons (z_var 1) (zpa_cons z_int zpa_nil))) zpa_nil)) (by rfl))
    (zs_one (z_ret (z_cal c__law_same hr rfl (zpa_cons (z_cal c_reward hr rfl (zpa_cons (z_var 8) (zpa_cons (z_tup (zpa_cons (z_tup (zpa_cons z_int (zpa_cons (z_var 5) zpa_nil))) zpa_nil)) zpa_nil))) (zpa_cons (z_op zo_div (z_op zo_mul (z_var 8) (z_var 5)) z_int) zpa_nil)))))))))))))))))))), rfl⟩
  obtain ⟨_, h, rfl⟩ := h
  exact h
end L70

set_option maxHeartbeats 4000000
namespace L70
open PySem PySem.Spec PyProof.Rows L2 Z FC
local macro_rules | `(tactic| tb_start) => `(tactic| first | assumption | exact True.intro | exact ⟨_, _, rfl, by ke_read⟩ | ((with_reducible refine' MulOk.r ?s1 ?s2); (case s1 => (decide)); (case s2 => (decide))) | ((with_reducible refine' DivOk.any ?s1); (case s1 => (assumption))) | ((with_reducible refine' DivOk.small ?s1 ?s2); (case s1 => (decide)); (case s2 => (decide))) | ((with_reducible refine' MulOk.r ?s1 ?s2); (case s1 => (omega)); (case s2 => (omega))) | ((with_reducible refine' MulOk.l ?s1 ?s2); (case s1 => (omega)); (case s2 => (omega))) | ((with_reducible refine' DivOk.small ?s1 ?s2); (case s1 => (omega)); (case s2 => (omega))) | ((with_reducible refine' PowOk.lit ?s1 ?s2 ?s3); (case s1 => (decide)); (case s2 => (decide)); (case s3 => (decide))) | omega | ((with_reducible refine' s_sz ?s1); (case s1 => (first | omega | (simp only [List.length_append, List.length_cons, List.length_nil, List.length_map, List.length_set, List.length_take, List.length_drop, List.length_dropLast] <;> omega)))) | ((with_reducible refine' s_szl ?s1); (case s1 => (first | omega | (simp only [List.length_append, List.length_cons, List.length_nil, List.length_map, List.length_set, List.length_take, List.length_drop, List.length_dropLast] <;> omega)))) | ke_read | ked_read | decide)
local macro_rules | `(tactic| ke_reads) => `(tactic| first | assumption | exact Ne.symm (by assumption) | omega | (simp only [List.length_append, List.length_cons, List.length_nil, List.length_set] at * <;> omega))
local macro_rules | `(tactic| ked_reads) => `(tactic| first | assumption | ((with_reducible refine' lt_of_get ?s1); (case s1 => (ked_read))))
local macro_rules | `(tactic| ked_read) => `(tactic| first | assumption | ((with_reducible refine' List.getElem?_set_self ?s1); (case s1 => (ked_reads))) | ((with_reducible refine' set_ne' ?s1 ?s2); (case s1 => (ke_reads)); (case s2 => (ked_read))) | exact (app_get0 _ _).trans rfl | exact (app_get _ _ _).trans rfl | ((with_reducible refine' app_l ?s1); (case s1 => (ked_read))))
local macro_rules | `(tactic| ke_read) => `(tactic| first | assumption | (apply getL_of; assumption) | ((with_reducible refine' getL_set_self ?s1); (case s1 => (ked_reads))) | exact getL_app00 _ _ _ | exact getL_app1 _ _ _ _ | ((with_reducible refine' getL_set_ne' ?s1 ?s2); (case s1 => (ke_reads)); (case s2 => (ke_read))) | ((with_reducible refine' getL_app_l ?s1); (case s1 => (ke_read))) | exact (getL_app _ _ _).trans rfl)
local macro_rules | `(tactic| kqd_all) => `(tactic| first | assumption | (rw [atI_m1]; first | with_unfolding_all rfl | assumption) | (rw [atI_lit]; first | with_unfolding_all rfl | assumption) | (rw [atI_cast]; assumption) | exact atI_ints (by omega) (by simp only [List.length_map] at *; omega))
local macro_rules | `(tactic| kct_strs) => `(tactic| first | assumption | (rw [ixN_lit, if_pos (by simp)]; done))
local macro_rules | `(tactic| kp_flats) => `(tactic| first | with_reducible refine q_let0 ?_ | with_reducible refine q_let1 ?_ | with_reducible refine q_let2 ?_ | with_reducible refine q_let3 ?_ | with_reducible refine q_let4 ?_ | with_reducible refine q_let5 ?_ | with_reducible refine q_let6 ?_ | with_reducible refine q_let7 ?_ | with_reducible refine q_let8 ?_ | with_reducible refine q_let9 ?_ | with_reducible refine q_let10 ?_ | with_reducible refine q_let11 ?_ | with_reducible refine q_let12 ?_ | with_reducible refine q_let13 ?_ | with_reducible refine q_let14 ?_ | with_reducible refine q_let15 ?_ | with_reducible refine q_let16 ?_ | with_reducible refine q_let17 ?_ | with_reducible refine q_let18 ?_ | with_reducible refine q_let19 ?_ | with_reducible refine q_let20 ?_ | with_reducible refine q_let21 ?_ | with_reducible refine q_let22 ?_ | with_reducible refine q_let23 ?_ | with_reducible refine q_let24 ?_ | with_reducible refine q_let25 ?_ | with_reducible refine q_let26 ?_ | with_reducible refine q_let27 ?_ | with_reducible refine q_let28 ?_ | with_reducible refine q_let29 ?_ | with_reducible refine q_let30 ?_ | with_reducible refine q_let31 ?_ | with_reducible refine q_let32 ?_ | with_reducible refine q_let33 ?_ | with_reducible refine q_let34 ?_ | with_reducible refine q_let35 ?_ | with_reducible refine q_let36 ?_ | with_reducible refine q_let37 ?_ | with_reducible refine q_let38 ?_ | with_reducible refine q_let39 ?_)
local macro_rules | `(tactic| tb_rel) => `(tactic| first | ((with_reducible show qLet _ _ _ _); kp_flats) | ((with_reducible refine' i_dt ?s1 ?_); (case s1 => (first | assumption | rfl))) | ((with_reducible refine' i_df ?s1 ?_); (case s1 => (assumption))) | ((with_reducible refine' i_nf ?s1 ?_); (case s1 => (first | assumption | rfl))) | ((with_reducible refine' i_nt ?s1 ?_); (case s1 => (assumption))) | ((with_reducible refine' i_t ?s1 ?_); (case s1 => (with_unfolding_all rfl))) | ((with_reducible refine' i_f ?s1 ?_); (case s1 => (with_unfolding_all rfl))) | ((with_reducible refine' q_ix_tup ?s1 ?_); (case s1 => (kqd_all))) | ((with_reducible refine' q_ix_ref ?s1 ?s2 ?_); (case s1 => (ke_read)); (case s2 => (kqd_all))) | ((with_reducible refine' q_eq_int ?_)) | ((with_reducible refine' q_ne_int ?_)) | ((with_reducible refine' q_eq_str ?s1 ?s2 ?_); (case s1 => (first | assumption | decide +kernel)); (case s2 => (first | assumption | decide +kernel))) | ((with_reducible refine' q_ne_str ?s1 ?s2 ?_); (case s1 => (first | assumption | decide +kernel)); (case s2 => (first | assumption | decide +kernel))) | ((with_reducible refine' q_len_tup ?_)) | ((with_reducible refine' q_len_ref ?s1 ?_); (case s1 => (ke_read))) | ((with_reducible refine' s_isml ?s1 ?_); (case s1 => (ke_read))) | ((with_reducible refine' q_append2 ?s1 ?s2 ?_); (case s1 => (ked_reads)); (case s2 => (tb_start))) | ((with_reducible refine' q_append0 ?s1 ?_); (case s1 => (tb_start))) | ((with_reducible refine' q_append1 ?s1 ?_); (case s1 => (tb_start))) | ((with_reducible refine' q_append ?s1 ?s2 ?_); (case s1 => (ked_read)); (case s2 => (tb_start))) | ((with_reducible refine' q_cat ?s1 ?s2 ?s3 ?_); (case s1 => (ked_read)); (case s2 => (ked_read)); (case s3 => (tb_start))) | ((with_reducible refine' q_pop0 ?s1 ?_); (case s1 => (ked_read))) | ((with_reducible refine' q_setL2 ?s1 ?s2 ?_); (case s1 => (ked_reads)); (case s2 => (kct_strs))) | ((with_reducible refine' q_setL ?s1 ?s2 ?_); (case s1 => (ked_read)); (case s2 => (kct_strs))) | ((with_reducible refine' q_tup_tup ?_)) | ((with_reducible refine' q_tup_ref ?s1 ?_); (case s1 => (ke_read))) | ((with_reducible refine' q_list_tup ?_)) | ((with_reducible refine' q_list_ref ?s1 ?_); (case s1 => (ke_read))) | ((with_reducible refine' q_sl_tupE ?s1 ?_); (case s1 => (assumption))) | ((with_reducible refine' q_sl_refE ?s1 ?s2 ?_); (case s1 => (ke_read)); (case s2 => (assumption))) | ((with_reducible refine' q_sl_tup ?_)) | ((with_reducible refine' q_sl_ref ?s1 ?_); (case s1 => (ke_read))) | ((with_reducible refine' s_enumI_tup ?_)) | ((with_reducible refine' s_enumI_ref ?s1 ?_); (case s1 => (ke_read))) | ((with_reducible refine' s_seqI_tup ?_)) | ((with_reducible refine' s_seqI_ref ?s1 ?_); (case s1 => (ke_read))) | ((with_reducible refine' q_eq_pn (d := 8) (e := 8) ?s1 ?s2 ?s3 ?s4 ?_); (case s1 => (lsm_bools)); (case s2 => (lsm_bools)); (case s3 => (first | decide | omega)); (case s4 => (first | decide | omega))) | ((with_reducible refine' q_ne_pn (d := 8) (e := 8) ?s1 ?s2 ?s3 ?s4 ?_); (case s1 => (lsm_bools)); (case s2 => (lsm_bools)); (case s3 => (first | decide | omega)); (case s4 => (first | decide | omega))) | ((with_reducible refine' q_eq_lpn (d := 8) (e := 8) ?s1 ?s2 ?s3 ?s4 ?s5 ?s6 ?_); (case s1 => (ke_read)); (case s2 => (ke_read)); (case s3 => (lsm_bools)); (case s4 => (lsm_bools)); (case s5 => (first | decide | omega)); (case s6 => (first | decide | omega))) | ((with_reducible refine' q_ne_lpn (d := 8) (e := 8) ?s1 ?s2 ?s3 ?s4 ?s5 ?s6 ?_); (case s1 => (ke_read)); (case s2 => (ke_read)); (case s3 => (lsm_bools)); (case s4 => (lsm_bools)); (case s5 => (first | decide | omega)); (case s6 => (first | decide | omega))) | ((with_reducible refine' q_is_non ?_)) | ((with_reducible refine' q_isnot_non ?_)) | ((with_reducible refine' q_eq_bl ?_)) | ((with_reducible refine' q_ne_bl ?_)) | ((with_reducible refine' q_isi ?s1 ?s2 ?_); (case s1 => (with_unfolding_all rfl)); (case s2 => (with_unfolding_all rfl))) | ((with_reducible refine' q_in_l (d := 8) (e := 8) ?s1 ?s2 ?s3 ?s4 ?s5 ?_); (case s1 => (ke_read)); (case s2 => (lsm_bools)); (case s3 => (lsm_bools)); (case s4 => (first | decide | omega)); (case s5 => (first | decide | omega))) | ((with_reducible refine' q_in_t (d := 8) (e := 8) ?s1 ?s2 ?s3 ?s4 ?_); (case s1 => (lsm_bools)); (case s2 => (lsm_bools)); (case s3 => (first | decide | omega)); (case s4 => (first | decide | omega))) | ((with_reducible refine' q_notin_l (d := 8) (e := 8) ?s1 ?s2 ?s3 ?s4 ?s5 ?_); (case s1 => (ke_read)); (case s2 => (lsm_bools)); (case s3 => (lsm_bools)); (case s4 => (first | decide | omega)); (case s5 => (first | decide | omega))) | ((with_reducible refine' q_notin_t (d := 8) (e := 8) ?s1 ?s2 ?s3 ?s4 ?_); (case s1 => (lsm_bools)); (case s2 => (lsm_bools)); (case s3 => (first | decide | omega)); (case s4 => (first | decide | omega))) | ((with_reducible refine' q_push0 ?s1 ?_); (case s1 => (tb_start))) | ((with_reducible refine' q_push ?s1 ?s2 ?_); (case s1 => (ked_read)); (case s2 => (tb_start))) | ((with_reducible refine' And.intro ?s1 ?_); (case s1 => (tb_start))))
local macro_rules | `(tactic| kbo_bools) => `(tactic| first | with_reducible refine i_d (fun _ => ?_) (fun _ => ?_) | with_reducible refine i_n (fun _ => ?_) (fun _ => ?_))
local macro_rules | `(tactic| keq_rows) => `(tactic| ((conv => whnf); repeat (tb_rel; (conv => whnf))))
local macro_rules | `(tactic| k_upd) => `(tactic| (keq_rows; try (kbo_bools <;> k_upd)))
local macro_rules | `(tactic| kat_tups) => `(tactic| (simp only [startL, List.map_cons, List.map_nil, List.length_cons, List.length_nil, Nat.zero_add, Nat.reduceAdd, Nat.reduceSub, List.reduceReplicate, List.cons_append, List.nil_append]; keq_rows))
local macro_rules | `(tactic| k_updF) => `(tactic| first | assumption | exact Keep.refl _ _ | exact Keep.app _ _ _ | ((with_reducible refine' Keep.app_r ?s1); (case s1 => (k_updF))) | ((with_reducible refine' Keep.set_in ?s1 ?s2); (case s1 => ((simp only [List.mem_cons, true_or, or_true]))); (case s2 => (k_updF))) | ((with_reducible refine' Keep.set_new ?s1 ?s2); (case s1 => (first | omega | (simp only [List.length_append, List.length_cons, List.length_nil, List.length_set] at * <;> omega))); (case s2 => (k_updF))) | exact Ext.keep (by assumption) | ((with_reducible refine' Keep.trans ?a (by assumption)); (case a => (k_updF))) | ((with_reducible refine' Keep.trans ?a (Ext.keep (by assumption))); (case a => (k_updF))))
local macro_rules | `(tactic| lsm_bools) => `(tactic| first | assumption | exact Pl.int _ _ | exact Pn.int _ _ | ((with_reducible refine' Pl.str _ _ ?s1); (case s1 => (first | assumption | decide +kernel))) | ((with_reducible refine' Pn.str _ _ ?s1); (case s1 => (first | assumption | decide +kernel))) | exact Pn.non _ | exact Pl.non _ | exact Pl.bl _ _ | exact Pns.nil _ | exact Pls.nil _ | ((with_reducible refine' Pls.cons ?s1 ?s2); (case s1 => (lsm_bools)); (case s2 => (lsm_bools))) | ((with_reducible refine' Pns.cons ?s1 ?s2); (case s1 => (lsm_bools)); (case s2 => (lsm_bools))) | ((with_reducible refine' Pl.tup ?s1 ?s2); (case s1 => (first | omega | (simp only [List.length_append, List.length_cons, List.length_nil, List.length_map, List.length_set, List.length_take, List.length_drop, List.length_dropLast] <;> omega))); (case s2 => (lsm_bools))) | ((with_reducible refine' Pn.tup ?s1 ?s2); (case s1 => (first | omega | (simp only [List.length_append, List.length_cons, List.length_nil, List.length_map, List.length_set, List.length_take, List.length_drop, List.length_dropLast] <;> omega))); (case s2 => (lsm_bools))))
abbrev St := List (Int × Int)
abbrev pW (p : Int × Int) : W := .tup [.int p.1, .int p.2]
/-- the end of the step ahead of these -/
def endOf (v : Int) : St → Int
  | [] => v
  | (b, _) :: _ => if b < v then b else v
def pz (d : Int) : Int := if 0 < d then d else 0
def tm (v : Int) (b p : Int) (r : St) : Int := pz (endOf v r - b) * p
def rsum (v : Int) : St → Int
  | [] => 0
  | (b, p) :: r => tm v b p r + rsum v r
def PartsOk (ps : St) : Prop := ps.length ≤ 1000 ∧ ∀ x ∈ ps, 0 ≤ x.2 ∧ x.2 < 100000000
theorem PartsOk.lenW {ps : St} (h : PartsOk ps) : (ps.map pW).length ≤ 1000 := by rw [List.length_map]; exact h.1
theorem pos_flip (x : Int) : (if 0 > x then 0 else x) = if 0 < x then x else 0 := by split <;> split <;> omega
theorem drop_step {ps : St} {i : Nat} {p : Int × Int} (e : ps[i]? = some p) : ps.drop i = p :: ps.drop (i + 1) := by
  obtain ⟨hi, e2⟩ := List.getElem?_eq_some_iff.mp e
  rw [List.drop_eq_getElem_cons hi, e2]
theorem end_some {v : Int} {ps : St} {i : Nat} {p : Int × Int} (e : ps[i]? = some p) : endOf v (ps.drop i) = if p.1 < v then p.1 else v := by
  rw [drop_step e]; rfl
theorem end_none {v : Int} {ps : St} {i : Nat} (e : ps.length ≤ i) : endOf v (ps.drop i) = v := by
  rw [List.drop_eq_nil_of_le e]; rfl
@[irreducible] def sp_reward : ZC := fun ws S K => ∃ (v : Int) (ps : St), ws = [.int v, .tup (ps.map pW)] ∧ PartsOk ps ∧ ∀ S', Ext S S' → K (.int (rsum v ps / 100)) S'
theorem c_reward {v : Int} {ps : St} {S : Store} {K : WK} (h1 : PartsOk ps) (h : ∀ S', Ext S S' → K (.int (rsum v ps / 100)) S') : sp_reward [.int v, .tup (ps.map pW)] S K := by unfold sp_reward; exact ⟨v, ps, rfl, h1, h⟩
theorem c_rewardE {v : Int} {ps : St} {xs : List W} {S : Store} {K : WK} (e : xs = ps.map pW) (h1 : PartsOk ps) (h : ∀ S', Ext S S' → K (.int (rsum v ps / 100)) S') : sp_reward [.int v, .tup xs] S K := e ▸ c_reward h1 h
theorem u_reward (ws : List W) (S : Store) (K : WK) (h : sp_reward ws S K) (hl : ws.length = 2) : t_reward (EndK K) (startL 7 ws) S := by
  unfold sp_reward at h
  obtain ⟨v, ps, rfl, hp, h⟩ := h
  kat_tups
  refine forI (fun i L S1 => ∃ (t : Int) (x3 x4 x5 x6 : Option W), L = [some (.int v), some (.tup (ps.map pW)), some (.int t), x3, x4, x5, x6] ∧ S1 = S ∧ t + rsum v (ps.drop i) = rsum v ps) ⟨_, _, _, _, _, rfl, rfl, by simp⟩ (fun _ _ _ _ => trivial) ?_ ?_
  · rintro i w L S1 hw ⟨t, x3, x4, x5, x6, rfl, rfl, ht⟩
    obtain ⟨y, hy, rfl⟩ := enumW_get.mp hw
    rw [List.getElem?_map, Option.map_eq_some_iff] at hy
    obtain ⟨p, hp1, rfl⟩ := hy
    obtain ⟨hb1, hb2⟩ := hp.2 p (List.mem_of_getElem? hp1)
    have hi := (List.getElem?_eq_some_iff.mp hp1).1
    rw [drop_step hp1, rsum] at ht
    cases hq : ps[i + 1]? with
    | none =>
      have hlt : ¬ ((i : Int) + 1 < ((ps.map pW).length : Int)) := by
        have := List.getElem?_eq_none_iff.mp hq
        rw [List.length_map]; omega
      have e := end_none (v := v) (List.getElem?_eq_none_iff.mp hq)
      keq_rows
      refine ⟨_, _, _, _, _, rfl, rfl, ?_⟩
      rw [← ht, tm, pz, e, pos_flip]
      omega
    | some q =>
      have hlt : ((i : Int) + 1 < ((ps.map pW).length : Int)) := by
        have := (List.getElem?_eq_some_iff.mp hq).1
        rw [List.length_map]; omega
      have e := end_some (v := v) hq
      have hat : atI (ps.map pW) ((i : Int) + 1) = some (pW q) := by
        rw [show ((i : Int) + 1) = ((i + 1 : Nat) : Int) by omega, atI_cast, List.getElem?_map, hq]
        rfl
      keq_rows
      refine ⟨_, _, _, _, _, rfl, rfl, ?_⟩
      rw [← ht, tm, pz, e, pos_flip]
      omega
  · rintro L S1 ⟨t, x3, x4, x5, x6, rfl, rfl, ht⟩
    rw [enumW_length, List.length_map, List.drop_length] at ht
    keq_rows
    rw [show rsum v ps = t by rw [← ht, rsum]; omega] at h
    exact h _ (Keep.refl _ _)
@[irreducible] def sp__law_sum : ZC := fun ws S K => ∃ (v : Int) (ps : St), ws = [.int v, .tup (ps.map pW)] ∧ PartsOk ps ∧ ∀ S', Ext S S' → K (.int (rsum v ps)) S'
theorem c__law_sum {v : Int} {ps : St} {S : Store} {K : WK} (h1 : PartsOk ps) (h : ∀ S', Ext S S' → K (.int (rsum v ps)) S') : sp__law_sum [.int v, .tup (ps.map pW)] S K := by unfold sp__law_sum; exact ⟨v, ps, rfl, h1, h⟩
theorem u__law_sum (ws : List W) (S : Store) (K : WK) (h : sp__law_sum ws S K) (hl : ws.length = 2) : t__law_sum (EndK K) (startL 7 ws) S := by
  unfold sp__law_sum at h
  obtain ⟨v, ps, rfl, hp, h⟩ := h
  have hlen := hp.lenW
  kat_tups
  refine forI (fun i L S1 => ∃ (t : Int) (x3 x4 x5 x6 : Option W), L = [some (.int v), some (.tup (ps.map pW)), some (.int t), x3, x4, x5, x6] ∧ S1 = S ∧ t + rsum v (ps.drop i) = rsum v ps) ⟨_, _, _, _, _, rfl, rfl, by simp⟩ (fun _ _ _ _ => trivial) ?_ ?_
  · rintro i w L S1 hw ⟨t, x3, x4, x5, x6, rfl, rfl, ht⟩
    obtain ⟨hi, rfl⟩ := rangeW_inv0 hw
    have hi' : i < ps.length := by rw [List.length_map] at hi; omega
    obtain ⟨p, hp1⟩ : ∃ p, ps[i]? = some p := ⟨_, List.getElem?_eq_getElem hi'⟩
    have hp1' : (ps.map pW)[i]? = some (pW p) := by rw [List.getElem?_map, hp1]; rfl
    obtain ⟨hb1, hb2⟩ := hp.2 p (List.mem_of_getElem? hp1)
    rw [drop_step hp1, rsum] at ht
    cases hq : ps[i + 1]? with
    | none =>
      have hlt : ((i : Int) + 1 = ((ps.map pW).length : Int)) := by
        have := List.getElem?_eq_none_iff.mp hq
        rw [List.length_map]; omega
      have e := end_none (v := v) (List.getElem?_eq_none_iff.mp hq)
      keq_rows
      refine ⟨_, _, _, _, _, rfl, rfl, ?_⟩
      rw [← ht, tm, pz, e, Int.mul_comm p.2]
      simp only [gt_iff_lt]
      omega
    | some q =>
      have hlt : ¬ ((i : Int) + 1 = ((ps.map pW).length : Int)) := by
        have := (List.getElem?_eq_some_iff.mp hq).1
        rw [List.length_map]; omega
      have e := end_some (v := v) hq
      have hat : atI (ps.map pW) ((i : Int) + 1) = some (pW q) := by
        rw [show ((i : Int) + 1) = ((i + 1 : Nat) : Int) by omega, atI_cast, List.getElem?_map, hq]
        rfl
      keq_rows
      refine ⟨_, _, _, _, _, rfl, rfl, ?_⟩
      rw [← ht, tm, pz, e, Int.mul_comm p.2]
      simp only [gt_iff_lt]
      omega
  · rintro L S1 ⟨t, x3, x4, x5, x6, rfl, rfl, ht⟩
    rw [rangeW_length, Int.toNat_natCast, List.length_map, List.drop_length] at ht
    keq_rows
    rw [show rsum v ps = t by rw [← ht, rsum]; omega] at h
    exact h _ (Keep.refl _ _)
def Asc (lo : Int) : St → Prop
  | [] => True
  | (b, _) :: r => lo ≤ b ∧ Asc (b + 1) r
@[irreducible] def sp__law_parts_at : ZC := fun ws S K => ∃ (v : Int) (ps : St) (p0 : Int) (r : St), ws = [.int v, .tup (ps.map pW)] ∧ ps = (0, p0) :: r ∧ ps.length ≤ 1000 ∧ 0 ≤ v ∧ ∀ S', Ext S S' → K (.int (((ps.filter fun x => decide (x.1 ≤ v)).getLast?.map (·.2)).getD 0)) S'
theorem u__law_parts_at (ws : List W) (S : Store) (K : WK) (h : sp__law_parts_at ws S K) (hl : ws.length = 2) : t__law_parts_at (EndK K) (startL 4 ws) S := by
  unfold sp__law_parts_at at h
  obtain ⟨v, ps, p0, r, rfl, hps, hlen, hv, h⟩ := h
  kat_tups
  refine lcF (fun w => match w with | .tup [.int b, .int p] => if b ≤ v then some (.int p) else none | _ => none) (fun _ _ => trivial) (s_sz (by rw [List.length_map]; omega)) ?_ ?_
  · intro i w S1 Kt Kf hw k hK hK'
    rw [List.getElem?_map, Option.map_eq_some_iff] at hw
    obtain ⟨p, hp, rfl⟩ := hw
    k_upd
    · exact hK _ _ (if_pos (by assumption)) (Keep.refl _ _)
    · exact hK' _ (if_neg (by assumption)) (Keep.refl _ _)
  · intro S1 k1 h1
    have e : (ps.map pW).filterMap (fun w => match w with | .tup [.int b, .int p] => if b ≤ v then some (W.int p) else none | _ => none) = ((ps.filter fun x => decide (x.1 ≤ v)).map (·.2)).map W.int := by
      rw [List.filterMap_map, List.map_map]
      clear h1 h hps hlen hl
      induction ps with
      | nil => rfl
      | cons a l ih => by_cases ha : a.1 ≤ v <;> simp [List.filterMap_cons, List.filter_cons, ha] <;> simpa using ih
    rw [e] at h1
    have hne : ∃ x, (ps.filter fun x => decide (x.1 ≤ v)).getLast? = some x := by
      rw [hps, List.filter_cons_of_pos (by simpa using hv)]
      exact ⟨_, List.getLast?_eq_getLast (List.cons_ne_nil _ _)⟩
    obtain ⟨x, hx⟩ := hne
    rw [hx] at h
    have hat : atI (((ps.filter fun x => decide (x.1 ≤ v)).map (·.2)).map W.int) (-1) = some (.int x.2) := by
      rw [atI_m1, List.getLast?_map, List.getLast?_map, hx]
      rfl
    keq_rows
    exact h _ k1
/-- ascending beginnings, the first is 0 -/
structure Steps (ps : St) : Prop where
  ok : PartsOk ps
  asc : Asc 0 ps
  hd : ∃ p0 r, ps = (0, p0) :: r
theorem asc_snoc {b p : Int} : ∀ {ps : St} {lo : Int}, Asc lo ps → (∀ x ∈ ps, x.1 < b) → lo ≤ b → Asc lo (ps ++ [(b, p)])
  | [], lo, _, _, h => ⟨h, trivial⟩
  | (c, _) :: r, lo, ⟨h1, h2⟩, h3, _ => ⟨h1, asc_snoc h2 (fun x hx => h3 x (List.mem_cons_of_mem _ hx)) (by have := h3 (c, _) List.mem_cons_self; dsimp only at this; omega)⟩
@[irreducible] def sp__law_steps : ZC := fun ws S K => ∃ n g, ws = [.ref n] ∧ ReelOk S n g ∧ ∀ ps S', Steps ps → ps.length ≤ 6 → (∀ x ∈ ps, x.1 ≤ 1000000000000000000000 ∧ x.2 ≤ 1000) → Keep [n, g] S S' → ReelOk S' n g → K (.tup (ps.map pW)) S'
theorem c__law_steps {n g : Nat} {S : Store} {K : WK} (h1 : ReelOk S n g) (h : ∀ ps S', Steps ps → ps.length ≤ 6 → (∀ x ∈ ps, x.1 ≤ 1000000000000000000000 ∧ x.2 ≤ 1000) → Keep [n, g] S S' → ReelOk S' n g → K (.tup (ps.map pW)) S') : sp__law_steps [.ref n] S K := by unfold sp__law_steps; exact ⟨n, g, rfl, h1, h⟩
theorem u__law_steps (ws : List W) (S : Store) (K : WK) (h : sp__law_steps ws S K) (hl : ws.length = 1) : t__law_steps sp__law_of sp__law_take (EndK K) (startL 4 ws) S := by
  unfold sp__law_steps at h
  obtain ⟨n, g, rfl, h1, h⟩ := h
  have hlt := h1.lt
  kat_tups
  refine c__law_of (h1.ext (Keep.app _ _ _)) (.inr ⟨_, rfl, getL_app00 _ _ _, by omega, by omega⟩) (by simp) (by simp) fun x S1 hx k1 r1 => ?_
  obtain ⟨p0, hp0, rfl⟩ := List.mem_map.mp (show x ∈ ([10, 0, 1, 100, 33, 1000] : List Int).map W.int from hx)
  have hp0' : 0 ≤ p0 ∧ p0 ≤ 1000 := by simp at hp0; omega
  have hlt1 := r1.lt
  have kk1 : Keep [n, g] S S1 := (Keep.app _ _ _).trans k1
  clear hx k1
  keq_rows
  refine c__law_take (r1.ext (Keep.app _ _ _)) (DivOk.small (by decide) (by decide)) fun cnt S2 c1 c2 k2 r2 => ?_
  have hs2 := k2 S1.length _ (by simp; omega) (app_get0 S1 [.lst [.tup [.int 0, .int p0]]])
  have kk2 : Keep [n, g] S S2 := kk1.trans (((Keep.app _ _ _)).trans k2)
  have hq2 : S1.length ≠ n ∧ S1.length ≠ g := by omega
  have hqS : S.length ≤ S1.length := kk1.len (by simp; omega)
  generalize S1.length = q at *
  clear k2 kk1 hlt1 r1
  keq_rows
  refine forI (fun i L S' => ∃ (b : Int) (ps : St) (x3 : Option W), L = [some (.ref n), some (.ref q), some (.int b), x3] ∧ S'[q]? = some (.lst (ps.map pW)) ∧ (∃ p0 r, ps = (0, p0) :: r) ∧ Asc 0 ps ∧ (∀ x ∈ ps, x.1 ≤ b ∧ 0 ≤ x.2 ∧ x.2 ≤ 1000) ∧ 0 ≤ b ∧ b ≤ 100000000000000000000 * i ∧ ps.length ≤ i + 1 ∧ Keep [n, g] S S' ∧ ReelOk S' n g)
    ⟨0, [(0, p0)], _, rfl, hs2, ⟨p0, [], rfl⟩, ⟨Int.le_refl _, trivial⟩, by simp; omega, Int.le_refl _, by simp, by simp, kk2, r2⟩ (fun _ _ _ _ => trivial) ?_ ?_
  · rintro i w L S3 hw ⟨b, ps, x3, rfl, hs3, hd, ha, hb, hb0, hb9, hl3, k3, r3⟩
    obtain ⟨hi, rfl⟩ := rangeW_inv0 hw
    have hlt3 := r3.lt
    keq_rows
    refine c__law_of (r3.ext (Keep.app _ _ _)) (.inr ⟨_, rfl, getL_app00 _ _ _, by omega, by omega⟩) (by simp) (by simp) fun x S4 hx k4 r4 => ?_
    obtain ⟨st, hst, rfl⟩ := List.mem_map.mp (show x ∈ ([1, 2, 3, 10, 99, 500, (fun (i j : Int) => i ^ j.toNat) 10 20] : List Int).map W.int from hx)
    have hst' : 1 ≤ st ∧ st ≤ 100000000000000000000 := by simp at hst; omega
    have hs4 := k4 q _ (by simp; exact hq2) (app_l hs3)
    have hlt4 := r4.lt
    have hq4 := lt_of_get hs4
    keq_rows
    refine c__law_of (r4.ext (Keep.app _ _ _)) (.inr ⟨_, rfl, getL_app00 _ _ _, by omega, by omega⟩) (by simp) (by simp) fun x S5 hx5 k5 r5 => ?_
    obtain ⟨p, hp, rfl⟩ := List.mem_map.mp (show x ∈ ([5, 0, 1, 3, 50, 100, 250] : List Int).map W.int from hx5)
    have hp' : 0 ≤ p ∧ p ≤ 1000 := by simp at hp; omega
    have hs5 := k5 q _ (by simp; exact hq2) (app_l hs4)
    have hlen5 : (ps.map pW).length ≤ 10 := by rw [List.length_map]; omega
    keq_rows
    refine ⟨_, ps ++ [(b + st, p)], _, rfl, ?_, ?_, asc_snoc ha (fun x hx => by have := hb x hx; omega) (by omega), ?_, by omega, by omega, by simp; omega, ?_, ?_⟩
    · rw [List.map_append]; exact List.getElem?_set_self (lt_of_get hs5)
    · obtain ⟨p0, r, rfl⟩ := hd
      exact ⟨p0, r ++ [_], rfl⟩
    · intro x hx
      rcases List.mem_append.mp hx with hx | hx
      · have := hb x hx; omega
      · rw [List.mem_singleton.mp hx]; dsimp only; omega
    · exact Keep.set_new hqS (((k3.trans (Keep.app _ _ _)).trans k4).trans ((Keep.app _ _ _).trans k5))
    · exact r5.keep (Keep.set _ _ _) (by simp; omega) (by simp; omega)
  · rintro L S3 ⟨b, ps, x3, rfl, hs3, hd, ha, hb, hb0, hb9, hl3, k3, r3⟩
    rw [rangeW_length] at hl3
    keq_rows
    exact h ps _ ⟨⟨by omega, fun x hx => by have := hb x hx; omega⟩, ha, hd⟩ (by omega) (fun x hx => by have := hb x hx; rw [rangeW_length] at hb9; omega) k3 r3
/-! the sums -/
theorem rsum_scale (v c : Int) : ∀ ps : St, rsum v (ps.map fun x => (x.1, c * x.2)) = c * rsum v ps
  | [] => by simp [rsum]
  | (b, p) :: r => by
    have e : endOf v (r.map fun x => (x.1, c * x.2)) = endOf v r := by cases r <;> rfl
    rw [List.map_cons, rsum, rsum, rsum_scale v c r, tm, tm, e, Int.mul_add, Int.mul_left_comm]
theorem rsum_both (v : Int) : ∀ (ps qs : St), ps.map (·.1) = qs.map (·.1) → rsum v (List.zipWith (fun x y => (x.1, 100 * x.2 + 100 * y.2)) ps qs) = 100 * (rsum v ps + rsum v qs)
  | [], [], _ => by simp [rsum]
  | [], _ :: _, h => by cases h
  | _ :: _, [], h => by cases h
  | (b, p) :: r, (b', p') :: r', h => by
    have h1 : b = b' := (List.cons.inj h).1
    have h2 : r.map (·.1) = r'.map (·.1) := (List.cons.inj h).2
    have e1 : endOf v (List.zipWith (fun x y => (x.1, 100 * x.2 + 100 * y.2)) r r') = endOf v r := by
      cases r <;> cases r' <;> first | rfl | cases h2
    have e2 : endOf v r' = endOf v r := by
      cases r with
      | nil => cases r' <;> first | rfl | cases h2
      | cons x r =>
        cases r' with
        | nil => cases h2
        | cons y r' =>
          have : x.1 = y.1 := (List.cons.inj h2).1
          show (if y.1 < v then y.1 else v) = if x.1 < v then x.1 else v
          rw [this]
    subst h1
    rw [List.zipWith_cons_cons, rsum, rsum, rsum, rsum_both v r r' h2, tm, tm, tm, e1, e2]
    generalize pz (endOf v r - b) = t
    have e3 : t * (100 * p + 100 * p') = 100 * (t * p) + 100 * (t * p') := by rw [Int.mul_add, Int.mul_left_comm, Int.mul_left_comm t 100]
    dsimp only
    omega
theorem rsum_low {v : Int} : ∀ {ps : St} {lo : Int}, Asc lo ps → v ≤ lo → rsum v ps = 0
  | [], _, _, _ => rfl
  | (b, p) :: r, lo, ⟨h1, h2⟩, h => by
    rw [rsum, rsum_low h2 (by omega), tm]
    have : endOf v r ≤ v := by
      unfold endOf
      cases r with
      | nil => exact Int.le_refl _
      | cons x r => dsimp only; split <;> omega
    rw [pz, if_neg (by omega)]
    omega
/-- the parts that count at v -/
def partAt (v : Int) : St → Int
  | [] => 0
  | (b, p) :: r => if b ≤ v then (match r with | [] => p | (b2, _) :: _ => if b2 ≤ v then partAt v r else p) else 0
theorem pz_succ {d : Int} (h : 0 ≤ d) : pz (d + 1) = pz d + 1 := by unfold pz; split <;> split <;> omega
theorem pz_low {d : Int} (h : d ≤ 0) : pz d = 0 := by unfold pz; split <;> omega
theorem end_next {v b p : Int} (r : St) (he : endOf v r = v) (he' : endOf (v + 1) r = v + 1) : tm (v + 1) b p r = tm v b p r + if b ≤ v then p else 0 := by
  rw [tm, tm, he, he']
  by_cases h : b ≤ v
  · rw [if_pos h, show v + 1 - b = (v - b) + 1 by omega, pz_succ (by omega), Int.add_mul, Int.one_mul]
  · rw [if_neg h, pz_low (by omega), pz_low (by omega)]
    omega
theorem rsum_cons (v b p : Int) (r : St) : rsum v ((b, p) :: r) = tm v b p r + rsum v r := rfl
theorem part1 (v b p : Int) : partAt v [(b, p)] = if b ≤ v then p else 0 := by simp [partAt]
theorem part2 (v b p b2 p2 : Int) (r : St) : partAt v ((b, p) :: (b2, p2) :: r) = if b ≤ v then (if b2 ≤ v then partAt v ((b2, p2) :: r) else p) else 0 := by simp [partAt]
theorem part0 {v b p : Int} {r : St} (h : ¬ b ≤ v) : partAt v ((b, p) :: r) = 0 := by
  cases r with
  | nil => rw [part1, if_neg h]
  | cons y r => rw [part2, if_neg h]
theorem rsum_next {v : Int} : ∀ {ps : St} {lo : Int}, Asc lo ps → rsum (v + 1) ps = rsum v ps + partAt v ps
  | [], _, _ => rfl
  | [(b, p)], lo, _ => by
    rw [rsum_cons, rsum_cons, end_next [] rfl rfl, part1]
    show _ + 0 = _ + 0 + _
    omega
  | (b, p) :: (b2, p2) :: r, lo, ⟨h1, h2, h3⟩ => by
    have ih := rsum_next (v := v) (ps := (b2, p2) :: r) ⟨h2, h3⟩
    by_cases hb : b2 ≤ v
    · have e1 : endOf (v + 1) ((b2, p2) :: r) = endOf v ((b2, p2) :: r) := by
        show (if b2 < v + 1 then b2 else v + 1) = if b2 < v then b2 else v
        split <;> split <;> omega
      rw [rsum_cons (v + 1) b, rsum_cons v b, ih, tm, tm, e1, part2, if_pos (by omega : b ≤ v), if_pos hb]
      omega
    · have ha : Asc b2 ((b2, p2) :: r) := ⟨Int.le_refl _, h3⟩
      have e1 : endOf (v + 1) ((b2, p2) :: r) = v + 1 := by
        show (if b2 < v + 1 then b2 else v + 1) = v + 1
        split <;> omega
      have e2 : endOf v ((b2, p2) :: r) = v := by
        show (if b2 < v then b2 else v) = v
        split <;> omega
      rw [rsum_cons (v + 1) b, rsum_cons v b, end_next _ e2 e1, rsum_low ha (by omega), rsum_low ha (by omega), part2, if_neg hb]
      omega
theorem filter_none {v : Int} : ∀ {ps : St} {lo : Int}, Asc lo ps → v < lo → ps.filter (fun x => decide (x.1 ≤ v)) = []
  | [], _, _, _ => rfl
  | (b, p) :: r, lo, ⟨h1, h2⟩, h => by
    rw [List.filter_cons_of_neg (by simp; omega)]
    exact filter_none h2 (by omega)
theorem part_last {v : Int} : ∀ {ps : St} {lo : Int}, Asc lo ps → ((ps.filter fun x => decide (x.1 ≤ v)).getLast?.map (·.2)).getD 0 = partAt v ps
  | [], _, _ => rfl
  | (b, p) :: r, lo, ⟨h1, h2⟩ => by
    have ih := part_last (v := v) h2
    by_cases hb : b ≤ v
    · rw [List.filter_cons_of_pos (by simpa using hb), List.getLast?_cons]
      cases r with
      | nil => rw [part1, if_pos hb]; rfl
      | cons y r =>
        obtain ⟨b2, p2⟩ := y
        obtain ⟨h3, h4⟩ := h2
        rw [part2, if_pos hb]
        by_cases hy : b2 ≤ v
        · rw [if_pos hy, ← ih, List.filter_cons_of_pos (by simpa using hy), List.getLast?_cons]
          rfl
        · rw [if_neg hy, List.filter_cons_of_neg (by simpa using hy), filter_none h4 (by omega)]
          rfl
    · rw [filter_none (ps := (b, p) :: r) ⟨Int.le_refl b, h2⟩ (by omega), part0 hb]
      rfl
theorem part_nn {v : Int} : ∀ {ps : St}, (∀ x ∈ ps, 0 ≤ x.2) → 0 ≤ partAt v ps
  | [], _ => Int.le_refl _
  | [(b, p)], h => by rw [part1]; have := h (b, p) (by simp); split <;> simp_all
  | (b, p) :: (b2, p2) :: r, h => by
    rw [part2]
    have h1 := h (b, p) (by simp)
    have h2 := part_nn (v := v) (ps := (b2, p2) :: r) fun x hx => h x (List.mem_cons_of_mem _ hx)
    dsimp only at h1
    split
    · split
      · exact h2
      · exact h1
    · exact Int.le_refl _
theorem rsum_mono {ps : St} {lo : Int} (h : Asc lo ps) (hp : ∀ x ∈ ps, 0 ≤ x.2) (v : Int) : ∀ k : Nat, rsum v ps ≤ rsum (v + k) ps
  | 0 => by simp
  | k + 1 => by
    have h1 := rsum_mono h hp v k
    have h2 := rsum_next (v := v + k) h
    have h3 := part_nn (v := v + k) hp
    rw [show v + ((k + 1 : Nat) : Int) = v + k + 1 by omega]
    omega
theorem rsum_le {ps : St} {lo v w : Int} (h : Asc lo ps) (hp : ∀ x ∈ ps, 0 ≤ x.2) (hv : v ≤ w) : rsum v ps ≤ rsum w ps := by
  have := rsum_mono h hp v (w - v).toNat
  rwa [show v + ((w - v).toNat : Int) = w by omega] at this
/-- a step cut in two -/
theorem rsum_cut {v b p c : Int} {r : St} (h1 : b < c) (h2 : ∀ x ∈ r.head?, c < x.1) : rsum v ((b, p) :: (c, p) :: r) = rsum v ((b, p) :: r) := by
  rw [rsum_cons, rsum_cons, rsum_cons, tm, tm, tm]
  have e1 : endOf v ((c, p) :: r) = if c < v then c else v := rfl
  have e2 : ∃ e, endOf v r = e ∧ (c < v → c < e) ∧ (v ≤ c → e = v) ∧ e ≤ v := by
    refine ⟨_, rfl, ?_⟩
    cases r with
    | nil => exact ⟨fun h => h, fun _ => rfl, Int.le_refl _⟩
    | cons x r =>
      have := h2 x (by simp)
      show (_ → _ < if x.1 < v then x.1 else v) ∧ (_ → (if x.1 < v then x.1 else v) = v) ∧ (if x.1 < v then x.1 else v) ≤ v
      split <;> omega
  obtain ⟨e, e3, e4, e5, e6⟩ := e2
  rw [e1, e3]
  have key : pz ((if c < v then c else v) - b) + pz (e - c) = pz (e - b) := by
    unfold pz
    split <;> split <;> split <;> split <;> omega
  rw [← key, Int.add_mul]
  omega
theorem rsum_pre {v : Int} {p1 p2 : St} (h : rsum v p1 = rsum v p2) (hh : p1.head?.map (·.1) = p2.head?.map (·.1)) : ∀ pre : St, rsum v (pre ++ p1) = rsum v (pre ++ p2) ∧ (pre ++ p1).head?.map (·.1) = (pre ++ p2).head?.map (·.1)
  | [] => ⟨h, hh⟩
  | (b, p) :: pre => by
    obtain ⟨i1, i2⟩ := rsum_pre h hh pre
    refine ⟨?_, rfl⟩
    rw [List.cons_append, List.cons_append, rsum_cons, rsum_cons, i1, tm, tm]
    have e : endOf v (pre ++ p1) = endOf v (pre ++ p2) := by
      cases h1 : pre ++ p1 with
      | nil => cases h2 : pre ++ p2 with
        | nil => rfl
        | cons y l => rw [h1, h2] at i2; cases i2
      | cons x k => cases h2 : pre ++ p2 with
        | nil => rw [h1, h2] at i2; cases i2
        | cons y l =>
          rw [h1, h2] at i2
          have : x.1 = y.1 := Option.some.inj i2
          show (if x.1 < v then x.1 else v) = if y.1 < v then y.1 else v
          rw [this]
    rw [e]
theorem asc_ge : ∀ {ps : St} {lo : Int}, Asc lo ps → ∀ x ∈ ps, lo ≤ x.1
  | [], _, _, x, hx => by cases hx
  | (b, p) :: r, lo, ⟨h1, h2⟩, x, hx => by
    rcases List.mem_cons.mp hx with rfl | hx
    · exact h1
    · have := asc_ge h2 x hx; omega
theorem DivOk.mid {j : Int} (h1 : 0 < j) (h2 : j < 1267650600228229401496703205376) : DivOk 0 j := by
  refine ⟨h1, ?_⟩
  have h3 : j.natAbs < 2 ^ 100 := by omega
  have : j.natAbs.log2 < 100 := (Nat.log2_lt (by omega)).mpr h3
  omega
theorem pz_id {v : Int} (h : 0 ≤ v) : pz v = v := by unfold pz; split <;> omega
theorem mem_zipWith {α β γ : Type} {f : α → β → γ} : ∀ {xs : List α} {ys : List β} {z : γ}, z ∈ List.zipWith f xs ys → ∃ x ∈ xs, ∃ y ∈ ys, z = f x y
  | [], _, _, h => by simp at h
  | _ :: _, [], _, h => by simp at h
  | x :: xs, y :: ys, z, h => by
    rw [List.zipWith_cons_cons] at h
    rcases List.mem_cons.mp h with rfl | h
    · exact ⟨x, by simp, y, by simp, rfl⟩
    · obtain ⟨x', hx, y', hy, e⟩ := mem_zipWith h
      exact ⟨x', by simp [hx], y', by simp [hy], e⟩
def bothAt (ps os : St) (i : Nat) : W := match ps[i]?, os[i]? with
  | some x, some y => pW (x.1, 100 * x.2 + 100 * y.2)
  | _, _ => .non
theorem both_list {ps os : St} {m : Nat} (hm : m = ps.length) (hol : os.length = ps.length) : (List.range m).map (bothAt ps os) = (List.zipWith (fun x y => (x.1, 100 * x.2 + 100 * y.2)) ps os).map pW := by
  subst hm
  apply List.ext_getElem?
  intro i
  rw [List.getElem?_map, List.getElem?_map, List.getElem?_zipWith]
  by_cases hi : i < ps.length
  · rw [List.getElem?_range hi, Option.map_some, bothAt, List.getElem?_eq_getElem hi, List.getElem?_eq_getElem (by omega : i < os.length)]
    rfl
  · rw [List.getElem?_eq_none (l := ps) (by omega), List.getElem?_eq_none (l := List.range _) (by rw [List.length_range]; omega)]
    rfl
theorem c__law_parts_at {v p0 : Int} {ps r : St} {S : Store} {K : WK} (h1 : ps = (0, p0) :: r) (h2 : ps.length ≤ 1000) (h3 : 0 ≤ v) (h4 : Asc 0 ps) (h : ∀ S', Ext S S' → K (.int (partAt v ps)) S') : sp__law_parts_at [.int v, .tup (ps.map pW)] S K := by
  unfold sp__law_parts_at
  exact ⟨v, ps, p0, r, rfl, h1, h2, h3, fun S' k => by rw [part_last h4]; exact h S' k⟩
@[irreducible] def sp_law : ZC := fun ws S K => ∃ ns : List Int, ws = [.ref 0] ∧ IsLst S 0 (ns.map W.int) ∧ ns.length ≤ 63 ∧ ∀ S', K (.bl true) S'
theorem u_law (ws : List W) (S : Store) (K : WK) (h : sp_law ws S K) (hl : ws.length = 1) : t_law sp__law_reel sp__law_steps sp__law_take sp__law_sum sp_reward (sp__law_same 8) sp__law_parts_at sp__law_of (EndK K) (startL 17 ws) S := by
  unfold sp_law at h
  obtain ⟨ns, rfl, h0, hn, h⟩ := h
  kat_tups
  refine c__law_reel h0 hn fun n g S1 k1 _ _ r1 => ?_
  keq_rows
  refine c__law_steps r1 fun ps S2 hst hsl hsb k2 r2 => ?_
  have hlen : (ps.map pW).length ≤ 6 := by rw [List.length_map]; exact hsl
  keq_rows
  refine c__law_take r2 ⟨by decide, by decide⟩ fun v5 S3 a5 b5 k3 r3 => ?_
  keq_rows
  refine c__law_take r3 ⟨by decide, by decide⟩ fun v6 S4 a6 b6 k4 r4 => ?_
  have hlt := r4.lt
  have hge := asc_ge hst.asc
  clear k1 k2 k3 k4 r1 r2 r3
  keq_rows
  refine forI (fun i L S' => ∃ (q : Nat) (vs : List Int) (x4 x5 : Option W), L = [some (.ref 0), some (.ref n), some (.tup (ps.map pW)), some (.ref q), x4, x5, none, none, none, none, none, none, none, none, none, none, none] ∧
    S'[q]? = some (.lst (vs.map W.int)) ∧ (∀ x ∈ vs, 0 ≤ x) ∧ vs.length = 6 + 4 * i ∧ q ≠ n ∧ q ≠ g ∧ ReelOk S' n g)
    ⟨_, [0, 1, 99, 100, v5, v6], _, _, rfl, (app_get0 _ _).trans rfl, by simp; omega, rfl, by omega, by omega, r4.ext (Keep.app _ _ _)⟩ (fun _ _ _ _ => trivial) ?_ ?_
  · rintro i w L S5 hw ⟨q, vs, x4, x5, rfl, hq, hv, hvl, q1, q2, r5⟩
    rw [List.getElem?_map, Option.map_eq_some_iff] at hw
    obtain ⟨p, hp, rfl⟩ := hw
    have hi := (List.getElem?_eq_some_iff.mp hp).1
    have hp0 := hge p (List.mem_of_getElem? hp)
    keq_rows
    refine c__law_take r5 (DivOk.small (by decide) (by decide)) fun t S6 t1 t2 k6 r6 => ?_
    have hq6 := k6 q _ (by simp; exact ⟨q1, q2⟩) hq
    have hlt6 := r6.lt
    have hvl' : (vs.map W.int).length ≤ 100 := by rw [List.length_map]; omega
    keq_rows
    refine ⟨_, vs ++ [if p.1 - 1 > 0 then p.1 - 1 else 0, p.1, p.1 + 1, p.1 + t], _, _, rfl, (app_get0 _ _).trans (by rw [List.map_append]; rfl), ?_, by simp; omega, by simp; omega, by simp; omega, (r6.ext (Keep.app _ _ _)).ext (Keep.app _ _ _)⟩
    intro x hx
    rcases List.mem_append.mp hx with hx | hx
    · exact hv x hx
    · simp only [List.mem_cons, List.not_mem_nil, or_false] at hx
      rcases hx with rfl | rfl | rfl | rfl
      · split <;> omega
      · exact hp0
      · omega
      · omega
  rintro L S5 ⟨q, vs, x4, x5, rfl, hq, hv, hvl, q1, q2, r5⟩
  rw [List.length_map] at hvl
  have hvl' : (vs.map W.int).length ≤ 100 := by rw [List.length_map]; omega
  have hlt5 := r5.lt
  keq_rows
  refine lcMap (fun w => match w with | .tup [.int b, .int p] => .tup [.int b, .int (100 * p)] | w => w) (fun _ _ => trivial) (s_sz (by omega)) ?_ ?_
  · intro i w S6 Kt Kf hw _ hK
    rw [List.getElem?_map, Option.map_eq_some_iff] at hw
    obtain ⟨p, hp, rfl⟩ := hw
    have := hst.ok.2 p (List.mem_of_getElem? hp)
    keq_rows
    exact hK _ (Keep.refl _ _)
  intro S6 k6 h6
  rw [show (ps.map pW).map (fun w => match w with | .tup [.int b, .int p] => W.tup [.int b, .int (100 * p)] | w => w) = (ps.map fun x => (x.1, 100 * x.2)).map pW by rw [List.map_map, List.map_map]; rfl] at h6
  have hh : PartsOk (ps.map fun x => (x.1, 100 * x.2)) := ⟨by rw [List.length_map]; omega, fun x hx => by
    obtain ⟨y, hy, rfl⟩ := List.mem_map.mp hx
    have := hsb y hy
    have := hst.ok.2 y hy
    dsimp only; omega⟩
  have hq6 := k6.get hq
  have r6 := r5.ext k6
  clear k6
  keq_rows
  refine s_sorted (by ke_read) fun vs' hperm hso => ?_
  have hv' : ∀ x ∈ vs', 0 ≤ x := fun x hx => hv x (hperm.mem_iff.mp hx)
  keq_rows
  refine forI (fun i L S' => ∃ (lw : W) (x4 x5 x8 x9 x10 : Option W), L = [some (.ref 0), some (.ref n), some (.tup (ps.map pW)), some (.ref q), x4, x5, some (.tup ((ps.map fun x => (x.1, 100 * x.2)).map pW)), some lw, x8, x9, x10, none, none, none, none, none, none] ∧ Ext (S6 ++ [.lst (vs'.map W.int)]) S' ∧
    (lw = .non ∨ ∃ l, lw = .int l ∧ ∀ j a, i ≤ j → vs'[j]? = some a → l ≤ rsum a ps / 100)) ⟨_, _, _, _, _, _, rfl, Keep.refl _ _, .inl rfl⟩ ?_ ?_ ?_
  · rintro i L S7 ⟨lw, x4, x5, x8, x9, x10, rfl, k7, hlw⟩
    exact Ext.lst k7 (by ke_read)
  · rintro i w L S7 hw ⟨lw, x4, x5, x8, x9, x10, rfl, k7, hlw⟩
    rw [List.getElem?_map, Option.map_eq_some_iff] at hw
    obtain ⟨v, hvi, rfl⟩ := hw
    have hv0 := hv' v (List.mem_of_getElem? hvi)
    obtain ⟨p0, r0, hps⟩ := hst.hd
    have hmono : ∀ j a, i + 1 ≤ j → vs'[j]? = some a → rsum v ps / 100 ≤ rsum a ps / 100 := fun j a hj ha => by
      have h1 := List.pairwise_iff_getElem.mp hso i j (List.getElem?_eq_some_iff.mp hvi).1 (List.getElem?_eq_some_iff.mp ha).1 (by omega)
      rw [(List.getElem?_eq_some_iff.mp hvi).2, (List.getElem?_eq_some_iff.mp ha).2] at h1
      have h2 := rsum_le hst.asc (fun x hx => (hst.ok.2 x hx).1) h1
      omega
    have e100 : ∀ u, rsum u (ps.map fun x => (x.1, 100 * x.2)) / 100 = rsum u ps := fun u => by rw [rsum_scale, Int.mul_ediv_cancel_left _ (by decide)]
    have hnx := rsum_next (v := v) hst.asc
    keq_rows
    refine c__law_sum hst.ok fun S8 k8 => ?_
    keq_rows
    refine c_reward hst.ok fun S9 k9 => ?_
    keq_rows
    refine c__law_same (.int _ _) fun S10 k10 => ?_
    keq_rows
    refine c_reward hh fun S11 k11 => ?_
    keq_rows
    refine c__law_sameE (by rw [e100]) (.int _ _) fun S12 k12 => ?_
    keq_rows
    refine c_reward hh fun S13 k13 => ?_
    keq_rows
    refine c__law_parts_at hps (by omega) hv0 hst.asc fun S14 k14 => ?_
    keq_rows
    refine c__law_sameE (by rw [e100]; congr 1; omega) (.int _ _) fun S15 k15 => ?_
    have kk := (((((((k7.trans k8).trans k9).trans k10).trans k11).trans k12).trans k13).trans k14).trans k15
    clear k7 k8 k9 k10 k11 k12 k13 k14 k15
    rcases hlw with rfl | ⟨l, rfl, hlw⟩
    · keq_rows
      exact ⟨_, _, _, _, _, _, rfl, kk, .inr ⟨_, rfl, hmono⟩⟩
    · have hnl : ¬ rsum v ps / 100 < l := by have := hlw i v (Nat.le_refl _) hvi; omega
      keq_rows
      exact ⟨_, _, _, _, _, _, rfl, kk, .inr ⟨_, rfl, hmono⟩⟩
  rintro L S7 ⟨lw, x4, x5, x8, x9, x10, rfl, k7, hlw⟩
  have hq7 := k7.get (app_l hq6)
  have r7 := (r6.ext (Keep.app _ _ _)).ext k7
  have hpos : 0 < (ps.map pW).length := by
    obtain ⟨p0, r0, hps⟩ := hst.hd
    rw [hps]; simp
  keq_rows
  refine c__law_take r7 (DivOk.len hpos (by omega)) fun k0 S8 c1 c2 k8 r8 => ?_
  obtain ⟨k, rfl⟩ : ∃ k : Nat, k0 = (k : Int) := ⟨k0.toNat, by omega⟩
  have hk : k < ps.length := by rw [List.length_map] at c2; omega
  obtain ⟨⟨b, p⟩, hkp⟩ : ∃ x, ps[k]? = some x := ⟨_, List.getElem?_eq_getElem hk⟩
  have hkW : (ps.map pW)[k]? = some (pW (b, p)) := by rw [List.getElem?_map, hkp]; rfl
  have hq8 := k8 q _ (by simp; exact ⟨q1, q2⟩) hq7
  have hb := hsb _ (List.mem_of_getElem? hkp)
  have hbg := hge _ (List.mem_of_getElem? hkp)
  have hpk := hst.ok.2 _ (List.mem_of_getElem? hkp)
  dsimp only at hb hbg hpk
  clear k7 k8 r7 r6 r5 hlw
  have hc1 : cut (ps.map pW) none (some ((k : Int) + 1)) = (ps.take (k + 1)).map pW := by rw [show ((k : Int) + 1) = ((k + 1 : Nat) : Int) from rfl, cut_to, List.map_take]
  have hc2 : cut (ps.map pW) (some ((k : Int) + 1)) none = (ps.drop (k + 1)).map pW := by rw [show ((k : Int) + 1) = ((k + 1 : Nat) : Int) from rfl, cut_from, List.map_drop]
  have hl1 : ((ps.take (k + 1)).map pW).length ≤ 6 := by rw [List.length_map, List.length_take]; omega
  have hl2 : ((ps.drop (k + 1)).map pW).length ≤ 6 := by rw [List.length_map, List.length_drop]; omega
  have htk : ps.take (k + 1) = ps.take k ++ [(b, p)] := by rw [List.take_add_one, hkp]; rfl
  have hsplit : ps = ps.take k ++ (b, p) :: ps.drop (k + 1) := by rw [← drop_step hkp, List.take_append_drop]
  have hlong : ∀ c, (ps.take (k + 1)).map pW ++ [W.tup [.int c, .int p]] ++ (ps.drop (k + 1)).map pW = (ps.take k ++ (b, p) :: (c, p) :: ps.drop (k + 1)).map pW := fun c => by rw [htk]; simp
  have hlok : ∀ c, PartsOk (ps.take k ++ (b, p) :: (c, p) :: ps.drop (k + 1)) := fun c => ⟨by simp; omega, fun x hx => by
    have hx' : x ∈ ps ∨ x = (c, p) := by
      rw [hsplit]
      simp only [List.mem_append, List.mem_cons] at hx ⊢
      rcases hx with hx | hx | hx | hx
      · exact .inl (.inl hx)
      · exact .inl (.inr (.inl hx))
      · exact .inr hx
      · exact .inl (.inr (.inr hx))
    rcases hx' with hx' | rfl
    · exact hst.ok.2 x hx'
    · exact hpk⟩
  have hsame : ∀ c v, b < c → (∀ x ∈ (ps.drop (k + 1)).head?, c < x.1) → rsum v (ps.take k ++ (b, p) :: (c, p) :: ps.drop (k + 1)) = rsum v ps := fun c v h1 h2 => by
    have := (rsum_pre (rsum_cut (v := v) (p := p) h1 h2) rfl (ps.take k)).1
    rw [this, ← hsplit]
  cases hq' : ps[k + 1]? with
  | none =>
    have hlt : ¬ ((k : Int) + 1 < ((ps.map pW).length : Int)) := by
      have := List.getElem?_eq_none_iff.mp hq'
      rw [List.length_map]; omega
    have hdn : ps.drop (k + 1) = [] := List.drop_eq_nil_of_le (List.getElem?_eq_none_iff.mp hq')
    keq_rows
    refine c__law_take r8 ⟨by decide, by decide⟩ fun t S9 t1 t2 k9 r9 => ?_
    have hch : ∀ x ∈ (ps.drop (k + 1)).head?, b + 1 + t < x.1 := by rw [hdn]; intro x hx; cases hx
    have hq9 := k9 q _ (by simp; exact ⟨q1, q2⟩) hq8
    keq_rows
    refine forI (fun i L S' => ∃ (x8 : Option W) (rm : Int), L = [some (.ref 0), some (.ref n), some (.tup (ps.map pW)), some (.ref q), some (.int b), some (.int p), some (.tup ((ps.map fun x => (x.1, 100 * x.2)).map pW)), some lw, x8, x9, x10, some (.int (k : Int)), some (.int rm), some (.int (b + 1 + t)), some (.tup ((ps.take (k + 1)).map pW ++ [W.tup [.int (b + 1 + t), .int p]] ++ (ps.drop (k + 1)).map pW)), none, none] ∧ Ext S9 S') ⟨_, _, rfl, Keep.refl _ _⟩ ?_ ?_ ?_
    · rintro i L S10 ⟨x8, rm, rfl, k10⟩
      exact Ext.lst k10 (by ke_read)
    · rintro i w L S10 hw ⟨x8, rm, rfl, k10⟩
      rw [List.getElem?_map, Option.map_eq_some_iff] at hw
      obtain ⟨v, hvi, rfl⟩ := hw
      keq_rows
      refine c_rewardE (hlong _) (hlok _) fun S11 k11 => ?_
      keq_rows
      refine c__law_sum hst.ok fun S12 k12 => ?_
      keq_rows
      refine c__law_sameE (by rw [hsame _ _ (by omega) hch]) (.int _ _) fun S13 k13 => ?_
      keq_rows
      exact ⟨_, _, rfl, ((k10.trans k11).trans k12).trans k13⟩
    rintro L S10 ⟨x8, rm, rfl, k10⟩
    have hqA := k10.get hq9
    have rA := r9.ext k10
    clear k10 hq9 r9 k9 hq8 r8
    have hltA := rA.lt
    have hqAl := lt_of_get hqA
    keq_rows
    refine lcI [n, g] (fun S' => ReelOk S' n g ∧ S'[q]? = some (.lst (vs.map W.int))) (fun i acc => ∃ os : St, acc = os.map pW ∧ os.map (·.1) = (ps.take i).map (·.1) ∧ ∀ x ∈ os, 0 ≤ x.2 ∧ x.2 ≤ 100) (by simp; omega) (by simp; omega) (fun S' o hS _ => ⟨hS.1.keep (Keep.set _ _ _) (by simp; omega) (by simp; omega), by rw [List.getElem?_set_ne (by omega)]; exact hS.2⟩) ⟨rA.ext (Keep.app _ _ _), app_l hqA⟩ (fun _ _ => trivial) ⟨[], rfl, rfl, by simp⟩ ?_ ?_ ?_
    · rintro i acc hi ⟨os, rfl, ho, _⟩
      have := congrArg List.length ho
      simp only [List.length_map, List.length_take] at this
      rw [List.length_map]
      exact s_szl (by omega)
    · rintro i acc w SB Kt Kf hw ⟨os, rfl, ho, hob⟩ ⟨rB, hqB⟩ kB hlB hK _
      rw [List.getElem?_map, Option.map_eq_some_iff] at hw
      obtain ⟨y, hy, rfl⟩ := hw
      have hltB := rB.lt
      keq_rows
      refine c__law_of (rB.ext (Keep.app _ _ _)) (.inr ⟨_, rfl, getL_app00 _ _ _, by omega, by omega⟩) (by simp) (by simp) fun x SC hx kC rC => ?_
      obtain ⟨pp, hpp, rfl⟩ := List.mem_map.mp (show x ∈ ([0, 7, 100, 12] : List Int).map W.int from hx)
      have hpp' : 0 ≤ pp ∧ pp ≤ 100 := by simp at hpp; omega
      keq_rows
      refine hK _ _ ((Keep.app _ _ _).trans kC) ⟨rC, kC q _ (by simp; exact ⟨q1, q2⟩) (app_l hqB)⟩ ⟨os ++ [(y.1, pp)], by rw [List.map_append]; rfl, ?_, ?_⟩
      · rw [List.map_append, ho, List.take_add_one, hy, Option.toList_some, List.map_append]; rfl
      · intro z hz
        rcases List.mem_append.mp hz with hz | hz
        · exact hob z hz
        · rw [List.mem_singleton.mp hz]; exact hpp'
    rintro acc SB ⟨os, rfl, ho, hob⟩ ⟨rB, hqB⟩ kB hB
    rw [List.length_map, List.take_of_length_le (Nat.le_refl _)] at ho
    have hol : os.length = ps.length := by have := congrArg List.length ho; simpa using this
    have holen : (os.map pW).length ≤ 6 := by rw [List.length_map]; omega
    clear kB
    keq_rows
    refine lcMap2 (bothAt ps os) (by rw [rangeW_length]; exact s_sz (by omega)) ?_ ?_
    · intro i SC Kt hi kC hK
      have hi' : i < ps.length := by rw [List.length_map] at hi; omega
      obtain ⟨x, hx⟩ : ∃ x, ps[i]? = some x := ⟨_, List.getElem?_eq_getElem hi'⟩
      obtain ⟨y, hy⟩ : ∃ y, os[i]? = some y := ⟨_, List.getElem?_eq_getElem (by omega)⟩
      have hxW : (ps.map pW)[i]? = some (pW x) := by rw [List.getElem?_map, hx]; rfl
      have hyW : (os.map pW)[i]? = some (pW y) := by rw [List.getElem?_map, hy]; rfl
      rw [bothAt, hx, hy] at hK
      keq_rows
      exact hK _ (Keep.refl _ _)
    intro SC kC hC
    rw [both_list (by rw [Int.toNat_natCast, List.length_map]) hol] at hC
    have hbok : PartsOk (List.zipWith (fun x y => (x.1, 100 * x.2 + 100 * y.2)) ps os) := ⟨by rw [List.length_zipWith]; omega, fun x hx => by
      obtain ⟨y, hy, z, hz, rfl⟩ := mem_zipWith hx
      have := hsb y hy
      have := hst.ok.2 y hy
      have := hob z hz
      dsimp only; omega⟩
    have hook : PartsOk os := ⟨by omega, fun x hx => by have := hob x hx; omega⟩
    have rC := rB.ext kC
    have hqC := kC.get hqB
    clear kC rB hqB hB rA hqA
    keq_rows
    refine forI (fun i L S' => Ext (SC ++ [.lst (cut (vs.map W.int) none (some 6))]) S' ∧ ∃ (x8 y12 y13 y14 : Option W), L = [some (.ref 0), some (.ref n), some (.tup (ps.map pW)), some (.ref q), some (.int b), some (.int p), some (.tup ((ps.map fun x => (x.1, 100 * x.2)).map pW)), some lw, x8, x9, x10, some (.int (k : Int)), y12, y13, y14, some (.tup (os.map pW)), some (.tup ((List.zipWith (fun x y => (x.1, 100 * x.2 + 100 * y.2)) ps os).map pW))]) ⟨Keep.refl _ _, _, _, _, _, rfl⟩ ?_ ?_ ?_
    · rintro i L SD ⟨kD, x8, y12, y13, y14, rfl⟩
      exact Ext.lst kD (by ke_read)
    · rintro i w L SD hw ⟨kD, x8, y12, y13, y14, rfl⟩
      rw [show cut (vs.map W.int) none (some 6) = _ from cut_to _ 6] at hw
      obtain ⟨v, -, rfl⟩ := List.mem_map.mp (List.mem_of_mem_take (List.mem_of_getElem? hw))
      keq_rows
      refine c_reward hbok fun SE kE => ?_
      keq_rows
      refine c__law_sum hst.ok fun SF kF => ?_
      keq_rows
      refine c__law_sum hook fun SG kG => ?_
      keq_rows
      refine c__law_sameE (by rw [rsum_both _ _ _ ho.symm, Int.mul_ediv_cancel_left _ (by decide)]) (.int _ _) fun SH kH => ?_
      keq_rows
      exact ⟨(((kD.trans kE).trans kF).trans kG).trans kH, _, _, _, _, rfl⟩
    rintro L SD ⟨kD, x8, y12, y13, y14, rfl⟩
    have rD := (rC.ext (Keep.app _ _ _)).ext kD
    have hqD := kD.get (app_l hqC)
    clear kD
    keq_rows
    refine c__law_of rD (.inr ⟨q, rfl, getL_of hqD, q1, q2⟩) (by rw [List.length_map]; omega) (by omega) fun x SE hx kE rE => ?_
    obtain ⟨v, hvm, rfl⟩ := List.mem_map.mp hx
    have hv0 := hv v hvm
    keq_rows
    refine c__law_take rE (DivOk.small (by decide) (by decide)) fun pa SF pa1 pa2 kF rF => ?_
    keq_rows
    refine c_rewardE (ps := [(0, pa)]) rfl ⟨by simp, by simp; omega⟩ fun SG kG => ?_
    keq_rows
    refine c__law_sameE (by rw [rsum_cons, tm]; show W.int ((pz (v - 0) * pa + 0) / 100) = _; rw [Int.sub_zero, Int.add_zero, pz_id hv0]) (.int _ _) fun SH kH => ?_
    exact h _
  | some y =>
    obtain ⟨b2, p2⟩ := y
    have hlt : ((k : Int) + 1 < ((ps.map pW).length : Int)) := by
      have := (List.getElem?_eq_some_iff.mp hq').1
      rw [List.length_map]; omega
    have hat : atI (ps.map pW) ((k : Int) + 1) = some (pW (b2, p2)) := by
      rw [show ((k : Int) + 1) = ((k + 1 : Nat) : Int) by omega, atI_cast, List.getElem?_map, hq']
      rfl
    have hb2 := hsb _ (List.mem_of_getElem? hq')
    keq_rows
    kbo_bools
    · keq_rows
      refine c__law_take r8 (DivOk.mid (by omega) (by dsimp only at *; omega)) fun t S9 t1 t2 k9 r9 => ?_
      have hch : ∀ x ∈ (ps.drop (k + 1)).head?, b + 1 + t < x.1 := by
        rw [drop_step hq']
        intro x hx
        cases hx
        dsimp only at *
        omega
      have hq9 := k9 q _ (by simp; exact ⟨q1, q2⟩) hq8
      keq_rows
      refine forI (fun i L S' => ∃ (x8 : Option W) (rm : Int), L = [some (.ref 0), some (.ref n), some (.tup (ps.map pW)), some (.ref q), some (.int b), some (.int p), some (.tup ((ps.map fun x => (x.1, 100 * x.2)).map pW)), some lw, x8, x9, x10, some (.int (k : Int)), some (.int rm), some (.int (b + 1 + t)), some (.tup ((ps.take (k + 1)).map pW ++ [W.tup [.int (b + 1 + t), .int p]] ++ (ps.drop (k + 1)).map pW)), none, none] ∧ Ext S9 S') ⟨_, _, rfl, Keep.refl _ _⟩ ?_ ?_ ?_
      · rintro i L S10 ⟨x8, rm, rfl, k10⟩
        exact Ext.lst k10 (by ke_read)
      · rintro i w L S10 hw ⟨x8, rm, rfl, k10⟩
        rw [List.getElem?_map, Option.map_eq_some_iff] at hw
        obtain ⟨v, hvi, rfl⟩ := hw
        keq_rows
        refine c_rewardE (hlong _) (hlok _) fun S11 k11 => ?_
        keq_rows
        refine c__law_sum hst.ok fun S12 k12 => ?_
        keq_rows
        refine c__law_sameE (by rw [hsame _ _ (by omega) hch]) (.int _ _) fun S13 k13 => ?_
        keq_rows
        exact ⟨_, _, rfl, ((k10.trans k11).trans k12).trans k13⟩
      rintro L S10 ⟨x8, rm, rfl, k10⟩
      have hqA := k10.get hq9
      have rA := r9.ext k10
      clear k10 hq9 r9 k9 hq8 r8
      have hltA := rA.lt
      have hqAl := lt_of_get hqA
      keq_rows
      refine lcI [n, g] (fun S' => ReelOk S' n g ∧ S'[q]? = some (.lst (vs.map W.int))) (fun i acc => ∃ os : St, acc = os.map pW ∧ os.map (·.1) = (ps.take i).map (·.1) ∧ ∀ x ∈ os, 0 ≤ x.2 ∧ x.2 ≤ 100) (by simp; omega) (by simp; omega) (fun S' o hS _ => ⟨hS.1.keep (Keep.set _ _ _) (by simp; omega) (by simp; omega), by rw [List.getElem?_set_ne (by omega)]; exact hS.2⟩) ⟨rA.ext (Keep.app _ _ _), app_l hqA⟩ (fun _ _ => trivial) ⟨[], rfl, rfl, by simp⟩ ?_ ?_ ?_
      · rintro i acc hi ⟨os, rfl, ho, _⟩
        have := congrArg List.length ho
        simp only [List.length_map, List.length_take] at this
        rw [List.length_map]
        exact s_szl (by omega)
      · rintro i acc w SB Kt Kf hw ⟨os, rfl, ho, hob⟩ ⟨rB, hqB⟩ kB hlB hK _
        rw [List.getElem?_map, Option.map_eq_some_iff] at hw
        obtain ⟨y, hy, rfl⟩ := hw
        have hltB := rB.lt
        keq_rows
        refine c__law_of (rB.ext (Keep.app _ _ _)) (.inr ⟨_, rfl, getL_app00 _ _ _, by omega, by omega⟩) (by simp) (by simp) fun x SC hx kC rC => ?_
        obtain ⟨pp, hpp, rfl⟩ := List.mem_map.mp (show x ∈ ([0, 7, 100, 12] : List Int).map W.int from hx)
        have hpp' : 0 ≤ pp ∧ pp ≤ 100 := by simp at hpp; omega
        keq_rows
        refine hK _ _ ((Keep.app _ _ _).trans kC) ⟨rC, kC q _ (by simp; exact ⟨q1, q2⟩) (app_l hqB)⟩ ⟨os ++ [(y.1, pp)], by rw [List.map_append]; rfl, ?_, ?_⟩
        · rw [List.map_append, ho, List.take_add_one, hy, Option.toList_some, List.map_append]; rfl
        · intro z hz
          rcases List.mem_append.mp hz with hz | hz
          · exact hob z hz
          · rw [List.mem_singleton.mp hz]; exact hpp'
      rintro acc SB ⟨os, rfl, ho, hob⟩ ⟨rB, hqB⟩ kB hB
      rw [List.length_map, List.take_of_length_le (Nat.le_refl _)] at ho
      have hol : os.length = ps.length := by have := congrArg List.length ho; simpa using this
      have holen : (os.map pW).length ≤ 6 := by rw [List.length_map]; omega
      clear kB
      keq_rows
      refine lcMap2 (bothAt ps os) (by rw [rangeW_length]; exact s_sz (by omega)) ?_ ?_
      · intro i SC Kt hi kC hK
        have hi' : i < ps.length := by rw [List.length_map] at hi; omega
        obtain ⟨x, hx⟩ : ∃ x, ps[i]? = some x := ⟨_, List.getElem?_eq_getElem hi'⟩
        obtain ⟨y, hy⟩ : ∃ y, os[i]? = some y := ⟨_, List.getElem?_eq_getElem (by omega)⟩
        have hxW : (ps.map pW)[i]? = some (pW x) := by rw [List.getElem?_map, hx]; rfl
        have hyW : (os.map pW)[i]? = some (pW y) := by rw [List.getElem?_map, hy]; rfl
        rw [bothAt, hx, hy] at hK
        keq_rows
        exact hK _ (Keep.refl _ _)
      intro SC kC hC
      rw [both_list (by rw [Int.toNat_natCast, List.length_map]) hol] at hC
      have hbok : PartsOk (List.zipWith (fun x y => (x.1, 100 * x.2 + 100 * y.2)) ps os) := ⟨by rw [List.length_zipWith]; omega, fun x hx => by
        obtain ⟨y, hy, z, hz, rfl⟩ := mem_zipWith hx
        have := hsb y hy
        have := hst.ok.2 y hy
        have := hob z hz
        dsimp only; omega⟩
      have hook : PartsOk os := ⟨by omega, fun x hx => by have := hob x hx; omega⟩
      have rC := rB.ext kC
      have hqC := kC.get hqB
      clear kC rB hqB hB rA hqA
      keq_rows
      refine forI (fun i L S' => Ext (SC ++ [.lst (cut (vs.map W.int) none (some 6))]) S' ∧ ∃ (x8 y12 y13 y14 : Option W), L = [some (.ref 0), some (.ref n), some (.tup (ps.map pW)), some (.ref q), some (.int b), some (.int p), some (.tup ((ps.map fun x => (x.1, 100 * x.2)).map pW)), some lw, x8, x9, x10, some (.int (k : Int)), y12, y13, y14, some (.tup (os.map pW)), some (.tup ((List.zipWith (fun x y => (x.1, 100 * x.2 + 100 * y.2)) ps os).map pW))]) ⟨Keep.refl _ _, _, _, _, _, rfl⟩ ?_ ?_ ?_
      · rintro i L SD ⟨kD, x8, y12, y13, y14, rfl⟩
        exact Ext.lst kD (by ke_read)
      · rintro i w L SD hw ⟨kD, x8, y12, y13, y14, rfl⟩
        rw [show cut (vs.map W.int) none (some 6) = _ from cut_to _ 6] at hw
        obtain ⟨v, -, rfl⟩ := List.mem_map.mp (List.mem_of_mem_take (List.mem_of_getElem? hw))
        keq_rows
        refine c_reward hbok fun SE kE => ?_
        keq_rows
        refine c__law_sum hst.ok fun SF kF => ?_
        keq_rows
        refine c__law_sum hook fun SG kG => ?_
        keq_rows
        refine c__law_sameE (by rw [rsum_both _ _ _ ho.symm, Int.mul_ediv_cancel_left _ (by decide)]) (.int _ _) fun SH kH => ?_
        keq_rows
        exact ⟨(((kD.trans kE).trans kF).trans kG).trans kH, _, _, _, _, rfl⟩
      rintro L SD ⟨kD, x8, y12, y13, y14, rfl⟩
      have rD := (rC.ext (Keep.app _ _ _)).ext kD
      have hqD := kD.get (app_l hqC)
      clear kD
      keq_rows
      refine c__law_of rD (.inr ⟨q, rfl, getL_of hqD, q1, q2⟩) (by rw [List.length_map]; omega) (by omega) fun x SE hx kE rE => ?_
      obtain ⟨v, hvm, rfl⟩ := List.mem_map.mp hx
      have hv0 := hv v hvm
      keq_rows
      refine c__law_take rE (DivOk.small (by decide) (by decide)) fun pa SF pa1 pa2 kF rF => ?_
      keq_rows
      refine c_rewardE (ps := [(0, pa)]) rfl ⟨by simp, by simp; omega⟩ fun SG kG => ?_
      keq_rows
      refine c__law_sameE (by rw [rsum_cons, tm]; show W.int ((pz (v - 0) * pa + 0) / 100) = _; rw [Int.sub_zero, Int.add_zero, pz_id hv0]) (.int _ _) fun SH kH => ?_
      exact h _
    · have rA := r8
      have hqA := hq8
      clear r8 hq8
      have hltA := rA.lt
      have hqAl := lt_of_get hqA
      keq_rows
      refine lcI [n, g] (fun S' => ReelOk S' n g ∧ S'[q]? = some (.lst (vs.map W.int))) (fun i acc => ∃ os : St, acc = os.map pW ∧ os.map (·.1) = (ps.take i).map (·.1) ∧ ∀ x ∈ os, 0 ≤ x.2 ∧ x.2 ≤ 100) (by simp; omega) (by simp; omega) (fun S' o hS _ => ⟨hS.1.keep (Keep.set _ _ _) (by simp; omega) (by simp; omega), by rw [List.getElem?_set_ne (by omega)]; exact hS.2⟩) ⟨rA.ext (Keep.app _ _ _), app_l hqA⟩ (fun _ _ => trivial) ⟨[], rfl, rfl, by simp⟩ ?_ ?_ ?_
      · rintro i acc hi ⟨os, rfl, ho, _⟩
        have := congrArg List.length ho
        simp only [List.length_map, List.length_take] at this
        rw [List.length_map]
        exact s_szl (by omega)
      · rintro i acc w SB Kt Kf hw ⟨os, rfl, ho, hob⟩ ⟨rB, hqB⟩ kB hlB hK _
        rw [List.getElem?_map, Option.map_eq_some_iff] at hw
        obtain ⟨y, hy, rfl⟩ := hw
        have hltB := rB.lt
        keq_rows
        refine c__law_of (rB.ext (Keep.app _ _ _)) (.inr ⟨_, rfl, getL_app00 _ _ _, by omega, by omega⟩) (by simp) (by simp) fun x SC hx kC rC => ?_
        obtain ⟨pp, hpp, rfl⟩ := List.mem_map.mp (show x ∈ ([0, 7, 100, 12] : List Int).map W.int from hx)
        have hpp' : 0 ≤ pp ∧ pp ≤ 100 := by simp at hpp; omega
        keq_rows
        refine hK _ _ ((Keep.app _ _ _).trans kC) ⟨rC, kC q _ (by simp; exact ⟨q1, q2⟩) (app_l hqB)⟩ ⟨os ++ [(y.1, pp)], by rw [List.map_append]; rfl, ?_, ?_⟩
        · rw [List.map_append, ho, List.take_add_one, hy, Option.toList_some, List.map_append]; rfl
        · intro z hz
          rcases List.mem_append.mp hz with hz | hz
          · exact hob z hz
          · rw [List.mem_singleton.mp hz]; exact hpp'
      rintro acc SB ⟨os, rfl, ho, hob⟩ ⟨rB, hqB⟩ kB hB
      rw [List.length_map, List.take_of_length_le (Nat.le_refl _)] at ho
      have hol : os.length = ps.length := by have := congrArg List.length ho; simpa using this
      have holen : (os.map pW).length ≤ 6 := by rw [List.length_map]; omega
      clear kB
      keq_rows
      refine lcMap2 (bothAt ps os) (by rw [rangeW_length]; exact s_sz (by omega)) ?_ ?_
      · intro i SC Kt hi kC hK
        have hi' : i < ps.length := by rw [List.length_map] at hi; omega
        obtain ⟨x, hx⟩ : ∃ x, ps[i]? = some x := ⟨_, List.getElem?_eq_getElem hi'⟩
        obtain ⟨y, hy⟩ : ∃ y, os[i]? = some y := ⟨_, List.getElem?_eq_getElem (by omega)⟩
        have hxW : (ps.map pW)[i]? = some (pW x) := by rw [List.getElem?_map, hx]; rfl
        have hyW : (os.map pW)[i]? = some (pW y) := by rw [List.getElem?_map, hy]; rfl
        rw [bothAt, hx, hy] at hK
        keq_rows
        exact hK _ (Keep.refl _ _)
      intro SC kC hC
      rw [both_list (by rw [Int.toNat_natCast, List.length_map]) hol] at hC
      have hbok : PartsOk (List.zipWith (fun x y => (x.1, 100 * x.2 + 100 * y.2)) ps os) := ⟨by rw [List.length_zipWith]; omega, fun x hx => by
        obtain ⟨y, hy, z, hz, rfl⟩ := mem_zipWith hx
        have := hsb y hy
        have := hst.ok.2 y hy
        have := hob z hz
        dsimp only; omega⟩
      have hook : PartsOk os := ⟨by omega, fun x hx => by have := hob x hx; omega⟩
      have rC := rB.ext kC
      have hqC := kC.get hqB
      clear kC rB hqB hB rA hqA
      keq_rows
      refine forI (fun i L S' => Ext (SC ++ [.lst (cut (vs.map W.int) none (some 6))]) S' ∧ ∃ (x8 y12 y13 y14 : Option W), L = [some (.ref 0), some (.ref n), some (.tup (ps.map pW)), some (.ref q), some (.int b), some (.int p), some (.tup ((ps.map fun x => (x.1, 100 * x.2)).map pW)), some lw, x8, x9, x10, some (.int (k : Int)), y12, y13, y14, some (.tup (os.map pW)), some (.tup ((List.zipWith (fun x y => (x.1, 100 * x.2 + 100 * y.2)) ps os).map pW))]) ⟨Keep.refl _ _, _, _, _, _, rfl⟩ ?_ ?_ ?_
      · rintro i L SD ⟨kD, x8, y12, y13, y14, rfl⟩
        exact Ext.lst kD (by ke_read)
      · rintro i w L SD hw ⟨kD, x8, y12, y13, y14, rfl⟩
        rw [show cut (vs.map W.int) none (some 6) = _ from cut_to _ 6] at hw
        obtain ⟨v, -, rfl⟩ := List.mem_map.mp (List.mem_of_mem_take (List.mem_of_getElem? hw))
        keq_rows
        refine c_reward hbok fun SE kE => ?_
        keq_rows
        refine c__law_sum hst.ok fun SF kF => ?_
        keq_rows
        refine c__law_sum hook fun SG kG => ?_
        keq_rows
        refine c__law_sameE (by rw [rsum_both _ _ _ ho.symm, Int.mul_ediv_cancel_left _ (by decide)]) (.int _ _) fun SH kH => ?_
        keq_rows
        exact ⟨(((kD.trans kE).trans kF).trans kG).trans kH, _, _, _, _, rfl⟩
      rintro L SD ⟨kD, x8, y12, y13, y14, rfl⟩
      have rD := (rC.ext (Keep.app _ _ _)).ext kD
      have hqD := kD.get (app_l hqC)
      clear kD
      keq_rows
      refine c__law_of rD (.inr ⟨q, rfl, getL_of hqD, q1, q2⟩) (by rw [List.length_map]; omega) (by omega) fun x SE hx kE rE => ?_
      obtain ⟨v, hvm, rfl⟩ := List.mem_map.mp hx
      have hv0 := hv v hvm
      keq_rows
      refine c__law_take rE (DivOk.small (by decide) (by decide)) fun pa SF pa1 pa2 kF rF => ?_
      keq_rows
      refine c_rewardE (ps := [(0, pa)]) rfl ⟨by simp, by simp; omega⟩ fun SG kG => ?_
      keq_rows
      refine c__law_sameE (by rw [rsum_cons, tm]; show W.int ((pz (v - 0) * pa + 0) / 100) = _; rw [Int.sub_zero, Int.add_zero, pz_id hv0]) (.int _ _) fun SH kH => ?_
      exact h _
end L70

set_option maxHeartbeats 4000000
namespace L70
open PySem PySem.Spec PyProof.Rows L2 Z FC
section
variable {l : PySem.W.OpenLaw} {w : World} {K : PySem.W.Frag} {h : Heap} {mg : Str → Option Value} {fa : Addr}
theorem all_mk (X : K.In h) (G : h.Ns mainGlobals mg) (hfa : mg "law" = some (.ref fa))
    (d__law_reel : DefAt K "_law_reel" s__law_reel)
    (d__law_take : DefAt K "_law_take" s__law_take)
    (d__law_of : DefAt K "_law_of" s__law_of)
    (d__law_same : DefAt K "_law_same" s__law_same)
    (d_reward : DefAt K "reward" s_reward)
    (d__law_sum : DefAt K "_law_sum" s__law_sum)
    (d__law_steps : DefAt K "_law_steps" s__law_steps)
    (d__law_parts_at : DefAt K "_law_parts_at" s__law_parts_at)
    (d_law : DefAt K "law" s_law)
    (z_abs : PySem.W.nsIn K mainGlobals "abs" = some none)
    (z_bool : PySem.W.nsIn K mainGlobals "bool" = some none)
    (z_enumerate : PySem.W.nsIn K mainGlobals "enumerate" = some none)
    (z_int : PySem.W.nsIn K mainGlobals "int" = some none)
    (z_isinstance : PySem.W.nsIn K mainGlobals "isinstance" = some none)
    (z_len : PySem.W.nsIn K mainGlobals "len" = some none)
    (z_max : PySem.W.nsIn K mainGlobals "max" = some none)
    (z_min : PySem.W.nsIn K mainGlobals "min" = some none)
    (z_range : PySem.W.nsIn K mainGlobals "range" = some none)
    (z_sorted : PySem.W.nsIn K mainGlobals "sorted" = some none)
    (z_str : PySem.W.nsIn K mainGlobals "str" = some none)
    (z_tuple : PySem.W.nsIn K mainGlobals "tuple" = some none)
    : ∃ fd : FuncData, (∀ (s : Shared) (v : Value), BindsTo s fd ⟨[v], []⟩ [("script", v)]) ∧ ∀ base : Heap, K.In base → base.Ns mainGlobals mg → FnOk l.prog w K mg base CX0 10 fa fd ["script"] (spZ K) := by
  have hB : Bl mg := ⟨PySem.W.mg_none_of X G z_abs, PySem.W.mg_none_of X G z_bool, PySem.W.mg_none_of X G z_enumerate, PySem.W.mg_none_of X G z_int, PySem.W.mg_none_of X G z_isinstance, PySem.W.mg_none_of X G z_len, PySem.W.mg_none_of X G z_max, PySem.W.mg_none_of X G z_min, PySem.W.mg_none_of X G z_range, PySem.W.mg_none_of X G z_sorted, PySem.W.mg_none_of X G z_str, PySem.W.mg_none_of X G z_tuple⟩
  obtain ⟨f__law_reel, fd__law_reel, F__law_reel, m__law_reel⟩ := d__law_reel.fn X G
  obtain ⟨f__law_take, fd__law_take, F__law_take, m__law_take⟩ := d__law_take.fn X G
  obtain ⟨f__law_of, fd__law_of, F__law_of, m__law_of⟩ := d__law_of.fn X G
  obtain ⟨f__law_same, fd__law_same, F__law_same, m__law_same⟩ := d__law_same.fn X G
  obtain ⟨f_reward, fd_reward, F_reward, m_reward⟩ := d_reward.fn X G
  obtain ⟨f__law_sum, fd__law_sum, F__law_sum, m__law_sum⟩ := d__law_sum.fn X G
  obtain ⟨f__law_steps, fd__law_steps, F__law_steps, m__law_steps⟩ := d__law_steps.fn X G
  obtain ⟨f__law_parts_at, fd__law_parts_at, F__law_parts_at, m__law_parts_at⟩ := d__law_parts_at.fn X G
  obtain ⟨f_law, fd_law, F_law, m_law⟩ := d_law.fn X G
  cases hfa.symm.trans m_law
  refine ⟨fd_law, bind1 F_law (fun _ _ _ _ _ _ _ => rfl), fun base _ _ => ?_⟩
  have B__law_reel := F__law_reel.binds (ps := ["script"]) fun _ _ _ _ _ _ us hl => match us, hl with | [_], _ => rfl
  have C__law_reel : Cal l.prog w K mg base [] 1 "_law_reel" 1 _ := ⟨f__law_reel, fd__law_reel, _, rfl, fn_z F__law_reel sc__law_reel (fun cdv A outer s H E hr => b__law_reel hB cdv A outer s H E hr) FC.u__law_reel, m__law_reel, F__law_reel.kp, B__law_reel⟩
  have B__law_take := F__law_take.binds (ps := ["reel", "many"]) fun _ _ _ _ _ _ us hl => match us, hl with | [_, _], _ => rfl
  have C__law_take : Cal l.prog w K mg base [] 1 "_law_take" 2 _ := ⟨f__law_take, fd__law_take, _, rfl, fn_z F__law_take sc__law_take (fun cdv A outer s H E hr => b__law_take hB cdv A outer s H E hr) FC.u__law_take, m__law_take, F__law_take.kp, B__law_take⟩
  have B__law_of := F__law_of.binds (ps := ["reel", "row"]) fun _ _ _ _ _ _ us hl => match us, hl with | [_, _], _ => rfl
  have C__law_of : Cal l.prog w K mg base [] 2 "_law_of" 2 _ := ⟨f__law_of, fd__law_of, _, rfl, fn_z F__law_of sc__law_of (fun cdv A outer s H E hr => b__law_of hB (C__law_take.mono (by decide)) cdv A outer s H E hr) FC.u__law_of, m__law_of, F__law_of.kp, B__law_of⟩
  have B__law_same := F__law_same.binds (ps := ["told", "due"]) fun _ _ _ _ _ _ us hl => match us, hl with | [_, _], _ => rfl
  have CR__law_same : ∀ d, Cal l.prog w K mg base [] (d + 1) "_law_same" 2 (sp__law_same d) := by
    intro d
    induction d with
    | zero => exact ⟨f__law_same, fd__law_same, _, rfl, fn_z F__law_same sc__law_same (fun cdv A outer s H E hr => b__law_same hB ⟨f__law_same, fd__law_same, _, rfl, zfn_false, m__law_same, F__law_same.kp, B__law_same⟩ cdv A outer s H E hr) (FC.u__law_same 0 (fun _ _ _ => False) (fun e h => by omega)), m__law_same, F__law_same.kp, B__law_same⟩
    | succ d ih => exact ⟨f__law_same, fd__law_same, _, rfl, (fn_z F__law_same sc__law_same (fun cdv A outer s H E hr => b__law_same hB ih cdv A outer s H E hr) (FC.u__law_same (d + 1) (sp__law_same d) (fun e h => by cases h; rfl))).mono (by omega), m__law_same, F__law_same.kp, B__law_same⟩
  have C__law_same := CR__law_same 8
  have B_reward := F_reward.binds (ps := ["value_told", "steps"]) fun _ _ _ _ _ _ us hl => match us, hl with | [_, _], _ => rfl
  have C_reward : Cal l.prog w K mg base [] 1 "reward" 2 _ := ⟨f_reward, fd_reward, _, rfl, fn_z F_reward sc_reward (fun cdv A outer s H E hr => b_reward hB cdv A outer s H E hr) u_reward, m_reward, F_reward.kp, B_reward⟩
  have KW_reward : CalK l.prog w K mg base [] 1 "reward" 2 ["steps", "value_told"] [1,0] _ := ⟨f_reward, fd_reward, _, rfl, fn_z F_reward sc_reward (fun cdv A outer s H E hr => b_reward hB cdv A outer s H E hr) u_reward, m_reward, F_reward.kp, bindsK F_reward (by intro _ _ _ _ _ _ ws hl; match ws, hl with | _ :: _ :: _, _ => exact rfl | [], hl => exact absurd hl (by simp [pick]) | [_], hl => exact absurd hl (by simp [pick]))⟩
  have B__law_sum := F__law_sum.binds (ps := ["value", "steps"]) fun _ _ _ _ _ _ us hl => match us, hl with | [_, _], _ => rfl
  have C__law_sum : Cal l.prog w K mg base [] 1 "_law_sum" 2 _ := ⟨f__law_sum, fd__law_sum, _, rfl, fn_z F__law_sum sc__law_sum (fun cdv A outer s H E hr => b__law_sum hB cdv A outer s H E hr) u__law_sum, m__law_sum, F__law_sum.kp, B__law_sum⟩
  have B__law_steps := F__law_steps.binds (ps := ["reel"]) fun _ _ _ _ _ _ us hl => match us, hl with | [_], _ => rfl
  have C__law_steps : Cal l.prog w K mg base [] 3 "_law_steps" 1 _ := ⟨f__law_steps, fd__law_steps, _, rfl, fn_z F__law_steps sc__law_steps (fun cdv A outer s H E hr => b__law_steps hB (C__law_of.mono (by decide)) (C__law_take.mono (by decide)) cdv A outer s H E hr) u__law_steps, m__law_steps, F__law_steps.kp, B__law_steps⟩
  have B__law_parts_at := F__law_parts_at.binds (ps := ["value", "steps"]) fun _ _ _ _ _ _ us hl => match us, hl with | [_, _], _ => rfl
  have C__law_parts_at : Cal l.prog w K mg base [] 1 "_law_parts_at" 2 _ := ⟨f__law_parts_at, fd__law_parts_at, _, rfl, fn_z F__law_parts_at sc__law_parts_at (fun cdv A outer s H E hr => b__law_parts_at  cdv A outer s H E hr) u__law_parts_at, m__law_parts_at, F__law_parts_at.kp, B__law_parts_at⟩
  exact law_spZ (fn_z F_law sc_law (fun cdv A outer s H E hr => b_law hB (C__law_reel.mono (by decide)) (C__law_steps.mono (by decide)) (C__law_take.mono (by decide)) (C__law_sum.mono (by decide)) (C_reward.mono (by decide)) (C__law_same.mono (by decide)) (C__law_parts_at.mono (by decide)) (C__law_of.mono (by decide)) (KW_reward.mono (by decide)) cdv A outer s H E hr) u_law) fun ns hl63 Kc hk => by unfold sp_law; exact ⟨ns, rfl, rfl, hl63, hk⟩
end
end L70
open PySem PySem.W PyProof.Rows
set_option maxHeartbeats 0 in
theorem PySem.Challenge.cw_whoseitis_k70_rewards_by_steps_holds : PySem.Challenge.rw_whoseitis_k70_rewards_by_steps.Holds := by
  w_on; o_law; k_head; (case hw => w_witness2)
  k_fill
  refine L2.walk_of (l := PySem.Challenge.rw_whoseitis_k70_rewards_by_steps) (n := 63) (k := 10) (x := "script") (CX := fun _ => L2.CX0) (sp := fun w => Z.spZ _) rfl (by decide) rfl ⟨rfl, by decide, by decide⟩ (fun w h Y => PySem.W.kIn_of Y) ?F (fun _ _ a ns hl hO hS => ⟨a, ns, rfl, hl, hO, hS, fun _ => rfl⟩) (fun _ _ _ _ _ h => h)
  case F =>
    intro w mg fa h KX G hmg
    refine' L70.all_mk KX G hmg ?d__law_reel ?d__law_take ?d__law_of ?d__law_same ?d_reward ?d__law_sum ?d__law_steps ?d__law_parts_at ?d_law ?z_abs ?z_bool ?z_enumerate ?z_int ?z_isinstance ?z_len ?z_max ?z_min ?z_range ?z_sorted ?z_str ?z_tuple
    (case d__law_reel => (refine' Z.defAt ?a ?l ?c ?k; (case a => k_is); (case l => k_is); (case c => k_is); (case k => k_is)))
    (case d__law_take => (refine' Z.defAt ?a ?l ?c ?k; (case a => k_is); (case l => k_is); (case c => k_is); (case k => k_is)))
    (case d__law_of => (refine' Z.defAt ?a ?l ?c ?k; (case a => k_is); (case l => k_is); (case c => k_is); (case k => k_is)))
    (case d__law_same => (refine' Z.defAt ?a ?l ?c ?k; (case a => k_is); (case l => k_is); (case c => k_is); (case k => k_is)))
    (case d_reward => (refine' Z.defAt ?a ?l ?c ?k; (case a => k_is); (case l => k_is); (case c => k_is); (case k => k_is)))
    (case d__law_sum => (refine' Z.defAt ?a ?l ?c ?k; (case a => k_is); (case l => k_is); (case c => k_is); (case k => k_is)))
    (case d__law_steps => (refine' Z.defAt ?a ?l ?c ?k; (case a => k_is); (case l => k_is); (case c => k_is); (case k => k_is)))
    (case d__law_parts_at => (refine' Z.defAt ?a ?l ?c ?k; (case a => k_is); (case l => k_is); (case c => k_is); (case k => k_is)))
    (case d_law => (refine' Z.defAt ?a ?l ?c ?k; (case a => k_is); (case l => k_is); (case c => k_is); (case k => k_is)))
    (case z_abs => k_is)
    (case z_bool => k_is)
    (case z_enumerate => k_is)
    (case z_int => k_is)
    (case z_isinstance => k_is)
    (case z_len => k_is)
    (case z_max => k_is)
    (case z_min => k_is)
    (case z_range => k_is)
    (case z_sorted => k_is)
    (case z_str => k_is)
    (case z_tuple => k_is)

