import PyProof.Rows.All
import PySem.Challenge.RW_whoseitis_k56_stages_in_rows
import HandS.ForMost
import HandS.Wide
import HandS.TupAny
import HandS.TupMul
import HandS.Deep
import HandS.Flow
import HandS.Style
import HandS.Walk
import HandS.Zip
import HandS.IsInst
import HandS.More
import HandS.SortInts
set_option Elab.async false
set_option linter.all false
set_option maxRecDepth 100000
set_option maxHeartbeats 2000000
/-! Z1: values by value, lists by reference into a store; the readings of the hand layer over them. -/
namespace Z
open PySem PySem.Spec PyProof.Rows L2

/-- a value: all but lists, dicts, objects by value -/
inductive W where
  | non | bl (b : Bool) | int (i : Int) | str (x : Str) | tup (xs : List W) | ref (n : Nat) | ty (n : String)
/-- what stands in the store -/
inductive O where
  | lst (xs : List W)
  | frz (xs : List W)
  | dic (kvs : List (Key × W))
abbrev Store := List O
abbrev Loc' := List (Option W)

/-- a tuple stands at a -/
def TupAt (K : PySem.W.Frag) (H : Hp) (a : Addr) (xs : List V) : Prop := H a = some (.tup xs) ∨
  ∃ (o : Obj) (its : Array Value) (n : Nat), K.lookup a = some o ∧ o.cls = .type "tuple" ∧ o.data = .seq its n ∧ its.size ≤ sizeLine ∧ Vals xs its.toList
/-- a list that nobody writes stands at a -/
def FrzAt (K : PySem.W.Frag) (H : Hp) (a : Addr) (xs : List V) : Prop := (∃ o, H a = some (.frz o (.lst xs))) ∨
  ∃ (o : Obj) (its : Array Value) (n : Nat), K.lookup a = some o ∧ o.cls = .type "list" ∧ o.dict = none ∧ o.data = .seq its n ∧ its.size ≤ sizeLine ∧ Vals xs its.toList
theorem TupAt.sq {K : PySem.W.Frag} {H : Hp} {a : Addr} {xs : List V} (h : TupAt K H a xs) : SqT K H a xs := h.elim (fun h => .inl (.inl h)) .inr
theorem FrzAt.sq {K : PySem.W.Frag} {H : Hp} {a : Addr} {xs : List V} (h : FrzAt K H a xs) : SqL K H a xs := h.elim (fun h => .inl (.inr h)) .inr

mutual
inductive Rep (K : PySem.W.Frag) (A : List Addr) (H : Hp) : W → V → Prop
  | non : Rep K A H .non .non
  | bl (b : Bool) : Rep K A H (.bl b) (.bl b)
  | int (i : Int) : Rep K A H (.int i) (.int i)
  | str (x : Str) : Rep K A H (.str x) (.str x)
  | ty (n : String) : Rep K A H (.ty n) (.ty n)
  | tup {a : Addr} {xs : List W} {vs : List V} : TupAt K H a vs → Reps K A H xs vs → Rep K A H (.tup xs) (.ref a)
  | ref {a : Addr} {n : Nat} : A[n]? = some a → Rep K A H (.ref n) (.ref a)
inductive Reps (K : PySem.W.Frag) (A : List Addr) (H : Hp) : List W → List V → Prop
  | nil : Reps K A H [] []
  | cons {x : W} {v : V} {xs : List W} {vs : List V} : Rep K A H x v → Reps K A H xs vs → Reps K A H (x :: xs) (v :: vs)
end

/-- tuples stay -/
def HExt (H H' : Hp) : Prop := ∀ a xs, H a = some (.tup xs) → H' a = some (.tup xs)
def AExt (A A' : List Addr) : Prop := ∀ (n : Nat) (a : Addr), A[n]? = some a → A'[n]? = some a
theorem HExt.refl (H : Hp) : HExt H H := fun _ _ h => h
theorem AExt.refl (A : List Addr) : AExt A A := fun _ _ h => h
theorem HExt.trans {H H1 H2 : Hp} (a : HExt H H1) (b : HExt H1 H2) : HExt H H2 := fun c o h => b c o (a c o h)
theorem AExt.trans {A A1 A2 : List Addr} (a : AExt A A1) (b : AExt A1 A2) : AExt A A2 := fun c o h => b c o (a c o h)
theorem AExt.snoc (A : List Addr) (p : Addr) : AExt A (A ++ [p]) := fun n a h => by
  obtain ⟨hl, _⟩ := List.getElem?_eq_some_iff.mp h
  rw [List.getElem?_append_left hl]; exact h
theorem HExt.new {H : Hp} {p : Addr} {o : HO} (h : H p = none) : HExt H (upd H p o) := fun a xs e => by rw [upd_ne (ne_of_none e h)]; exact e
theorem HExt.upd {H : Hp} {p : Addr} {o u : HO} (h : H p = some u) (n : ∀ xs, u ≠ .tup xs) : HExt H (upd H p o) := fun a xs e => by
  rw [upd_ne]; exact e
  rintro rfl; rw [h] at e; exact n xs (Option.some.inj e)

section
variable {K : PySem.W.Frag} {A A' : List Addr} {H H' : Hp}
theorem TupAt.mono {a : Addr} {xs : List V} (e : HExt H H') (h : TupAt K H a xs) : TupAt K H' a xs := h.elim (fun h => .inl (e _ _ h)) .inr
mutual
theorem Rep.mono (ea : AExt A A') (eh : HExt H H') : ∀ {w : W} {v : V}, Rep K A H w v → Rep K A' H' w v
  | _, _, .non => .non
  | _, _, .bl b => .bl b
  | _, _, .int i => .int i
  | _, _, .str x => .str x
  | _, _, .ty n => .ty n
  | _, _, .tup h r => .tup (h.mono eh) (Reps.mono ea eh r)
  | _, _, .ref h => .ref (ea _ _ h)
theorem Reps.mono (ea : AExt A A') (eh : HExt H H') : ∀ {ws : List W} {vs : List V}, Reps K A H ws vs → Reps K A' H' ws vs
  | _, _, .nil => .nil
  | _, _, .cons r t => .cons (Rep.mono ea eh r) (Reps.mono ea eh t)
end
theorem Reps.length : ∀ {ws : List W} {vs : List V}, Reps K A H ws vs → ws.length = vs.length
  | _, _, .nil => rfl
  | _, _, .cons _ t => by simp [Reps.length t]
theorem Reps.get : ∀ {ws : List W} {vs : List V} {i : Nat} {w : W}, Reps K A H ws vs → ws[i]? = some w → ∃ v, vs[i]? = some v ∧ Rep K A H w v
  | _, _, _, _, .nil, e => by simp at e
  | _, _, 0, _, .cons r _, e => by simp at e; subst e; exact ⟨_, rfl, r⟩
  | _, _, i + 1, x, .cons _ t, e => by
    obtain ⟨u, h1, h2⟩ := Reps.get (i := i) (w := x) t (by simpa using e)
    exact ⟨u, by simpa using h1, h2⟩
theorem Reps.get' : ∀ {ws : List W} {vs : List V} {i : Nat} {v : V}, Reps K A H ws vs → vs[i]? = some v → ∃ w, ws[i]? = some w ∧ Rep K A H w v
  | _, _, _, _, .nil, e => by simp at e
  | _, _, 0, _, .cons r _, e => by simp at e; subst e; exact ⟨_, rfl, r⟩
  | _, _, i + 1, x, .cons _ t, e => by
    obtain ⟨u, h1, h2⟩ := Reps.get' (i := i) (v := x) t (by simpa using e)
    exact ⟨u, by simpa using h1, h2⟩
theorem Reps.append : ∀ {xs ys : List W} {us ws : List V}, Reps K A H xs us → Reps K A H ys ws → Reps K A H (xs ++ ys) (us ++ ws)
  | _, _, _, _, .nil, s => s
  | _, _, _, _, .cons r t, s => .cons r (Reps.append t s)
theorem Reps.take : ∀ {xs : List W} {us : List V} (n : Nat), Reps K A H xs us → Reps K A H (xs.take n) (us.take n)
  | _, _, 0, _ => .nil
  | _, _, _ + 1, .nil => .nil
  | _, _, n + 1, .cons r t => .cons r (Reps.take n t)
theorem Reps.drop : ∀ {xs : List W} {us : List V} (n : Nat), Reps K A H xs us → Reps K A H (xs.drop n) (us.drop n)
  | _, _, 0, r => r
  | _, _, _ + 1, .nil => .nil
  | _, _, n + 1, .cons _ t => Reps.drop n t
theorem Reps.set {x : W} {u : V} (r : Rep K A H x u) : ∀ {xs : List W} {us : List V} (i : Nat), Reps K A H xs us → Reps K A H (xs.set i x) (us.set i u)
  | _, _, _, .nil => .nil
  | _, _, 0, .cons _ t => .cons r t
  | _, _, i + 1, .cons q t => .cons q (Reps.set r i t)
theorem Reps.eraseIdx : ∀ {xs : List W} {us : List V} (i : Nat), Reps K A H xs us → Reps K A H (xs.eraseIdx i) (us.eraseIdx i)
  | _, _, _, .nil => .nil
  | _, _, 0, .cons _ t => t
  | _, _, i + 1, .cons r t => .cons r (Reps.eraseIdx i t)
theorem Reps.insertIdx {x : W} {u : V} (r : Rep K A H x u) : ∀ {xs : List W} {us : List V} (i : Nat), Reps K A H xs us → Reps K A H (xs.insertIdx i x) (us.insertIdx i u)
  | _, _, 0, t => .cons r t
  | _, _, i + 1, .nil => by simpa using Reps.nil
  | _, _, i + 1, .cons q t => by simpa using Reps.cons q (Reps.insertIdx r i t)
theorem Reps.reverse : ∀ {xs : List W} {us : List V}, Reps K A H xs us → Reps K A H xs.reverse us.reverse
  | _, _, .nil => .nil
  | _, _, .cons r t => by simpa using Reps.append (Reps.reverse t) (.cons r .nil)
end

/-- what the store has at a place -/
def CellOk (K : PySem.W.Frag) (A : List Addr) (H : Hp) (a : Addr) : O → Prop
  | .lst xs => ∃ vs, H a = some (.lst vs) ∧ Reps K A H xs vs
  | .frz xs => ∃ vs, FrzAt K H a vs ∧ Reps K A H xs vs
  | .dic kvs => ∃ kws, H a = some (.dK kws) ∧ kvs.map (·.1) = kws.map (·.1) ∧ Reps K A H (kvs.map (·.2)) (kws.map (·.2))
/-- may be written -/
def O.mut : O → Bool
  | .frz _ => false
  | _ => true
def TabG (H : Hp) (P : Addr) : Prop := ∃ ps : Array Value, H P = some (.tbl ps) ∧ TriplesOk ps.toList
structure SOk (K : PySem.W.Frag) (TB : List Addr) (A : List Addr) (S : Store) (H : Hp) : Prop where
  len : A.length = S.length
  inj : ∀ (i j : Nat) (a : Addr) (o u : O), A[i]? = some a → A[j]? = some a → S[i]? = some o → S[j]? = some u → o.mut = true → u.mut = true → i = j
  cell : ∀ (n : Nat) (a : Addr) (o : O), A[n]? = some a → S[n]? = some o → CellOk K A H a o
  tab : ∀ P ∈ TB, TabG H P
def LOk (K : PySem.W.Frag) (A : List Addr) (H : Hp) (L : Loc') (σ : L2.St) : Prop :=
  L.length = σ.length ∧ ∀ (i : Nat) (w : W), L[i]? = some (some w) → ∃ v, σ[i]? = some (some v) ∧ Rep K A H w v

section
variable {K : PySem.W.Frag} {TB : List Addr} {A A' : List Addr} {S : Store} {H H' : Hp}
theorem LOk.mono {L : Loc'} {σ : L2.St} (ea : AExt A A') (eh : HExt H H') (h : LOk K A H L σ) : LOk K A' H' L σ :=
  ⟨h.1, fun i w e => let ⟨v, h1, h2⟩ := h.2 i w e; ⟨v, h1, h2.mono ea eh⟩⟩
theorem LOk.set {L : Loc'} {σ : L2.St} {w : W} {v : V} (h : LOk K A H L σ) (r : Rep K A H w v) (i : Nat) : LOk K A H (L.set i (some w)) (σ.set i (some v)) := by
  refine ⟨by simp [h.1], fun j x e => ?_⟩
  by_cases hj : i = j
  · subst hj
    by_cases hi : i < L.length
    · rw [List.getElem?_set_self hi] at e
      cases e
      exact ⟨v, List.getElem?_set_self (by rw [← h.1]; exact hi), r⟩
    · rw [List.getElem?_eq_none (by simpa using hi)] at e; cases e
  · rw [List.getElem?_set_ne hj] at e
    obtain ⟨v', h1, h2⟩ := h.2 j x e
    exact ⟨v', by rw [List.getElem?_set_ne hj]; exact h1, h2⟩
theorem SOk.addr (h : SOk K TB A S H) {n : Nat} {o : O} (e : S[n]? = some o) : ∃ a, A[n]? = some a := by
  obtain ⟨hl, _⟩ := List.getElem?_eq_some_iff.mp e
  exact ⟨_, List.getElem?_eq_getElem (by rw [h.len]; exact hl)⟩
theorem CellOk.mono {a : Addr} {o : O} (ea : AExt A A') (eh : HExt H H') (hl : o.mut = true → H' a = H a) (hz : ∀ z y, H a = some (.frz z y) → H' a = some (.frz z y)) (h : CellOk K A H a o) : CellOk K A' H' a o := by
  cases o with
  | lst xs => obtain ⟨vs, e, r⟩ := h; exact ⟨vs, (hl rfl).trans e, r.mono ea eh⟩
  | frz xs =>
    obtain ⟨vs, e, r⟩ := h
    refine ⟨vs, e.elim (fun ⟨o, e⟩ => .inl ⟨o, hz _ _ e⟩) .inr, r.mono ea eh⟩
  | dic kvs => obtain ⟨vs, e, k, r⟩ := h; exact ⟨vs, (hl rfl).trans e, k, r.mono ea eh⟩
theorem CellOk.trk {a : Addr} {o : O} (h : CellOk K A H a o) (m : o.mut = true) : ∃ u, H a = some u ∧ Mut (some u) ∧ (∀ xs, u ≠ .tup xs) ∧ (∀ ps, u ≠ .tbl ps) ∧ ∀ z y, u ≠ .frz z y := by
  cases o with
  | lst xs => obtain ⟨vs, e, r⟩ := h; exact ⟨_, e, trivial, (fun _ z => by cases z), (fun _ z => by cases z), (fun _ _ z => by cases z)⟩
  | frz xs => cases m
  | dic kvs => obtain ⟨vs, e, k, r⟩ := h; exact ⟨_, e, trivial, (fun _ z => by cases z), (fun _ z => by cases z), (fun _ _ z => by cases z)⟩
theorem CellOk.lst' {a : Addr} {xs : List W} {vs : List V} (h : H a = some (.lst vs)) (r : Reps K A H xs vs) : CellOk K A H a (.lst xs) := Exists.intro vs ⟨h, r⟩
theorem CellOk.dic' {a : Addr} {kvs : List (Key × W)} {kws : List (Key × V)} (h : H a = some (.dK kws)) (e : kvs.map (·.1) = kws.map (·.1)) (r : Reps K A H (kvs.map (·.2)) (kws.map (·.2))) : CellOk K A H a (.dic kvs) := Exists.intro kws ⟨h, e, r⟩
/-- a new object that is no cell of the store -/
theorem SOk.laid {p : Addr} {u : HO} (h : SOk K TB A S H) (hp : H p = none) : SOk K TB A S (upd H p u) := by
  refine ⟨h.len, h.inj, fun n a o h1 h2 => ?_, fun P hP => ?_⟩
  · refine (h.cell n a o h1 h2).mono (AExt.refl _) (HExt.new hp) (fun m => ?_) fun z y e => ?_
    · obtain ⟨u, e, _⟩ := (h.cell n a o h1 h2).trk m
      rw [upd_ne (ne_of_none e hp)]
    · rw [upd_ne (ne_of_none e hp)]; exact e
  · obtain ⟨ps, e, t⟩ := h.tab P hP
    exact ⟨ps, by rw [upd_ne (ne_of_none e hp)]; exact e, t⟩
/-- a new cell -/
theorem SOk.new {p : Addr} {u : HO} {o : O} (h : SOk K TB A S H) (hp : H p = none) (c : CellOk K (A ++ [p]) (upd H p u) p o) : SOk K TB (A ++ [p]) (S ++ [o]) (upd H p u) := by
  have old := h.laid (u := u) hp
  refine ⟨by simp [h.len], fun i j a o1 o2 h1 h2 h3 h4 m1 m2 => ?_, fun n a o' h1 h2 => ?_, old.tab⟩
  · have key : ∀ (i : Nat) (a : Addr) (o1 : O), (A ++ [p])[i]? = some a → (S ++ [o])[i]? = some o1 → o1.mut = true → (i < A.length ∧ a ≠ p ∧ A[i]? = some a ∧ S[i]? = some o1) ∨ (i = A.length ∧ a = p) := fun i a o1 h1 h3 m => by
      by_cases hi : i < A.length
      · rw [List.getElem?_append_left hi] at h1
        rw [List.getElem?_append_left (by rw [← h.len]; exact hi)] at h3
        obtain ⟨u, e, _⟩ := (h.cell i a o1 h1 h3).trk m
        exact .inl ⟨hi, ne_of_none e hp, h1, h3⟩
      · rw [List.getElem?_append_right (by omega)] at h1
        have : i - A.length = 0 := by
          cases hq : i - A.length with
          | zero => rfl
          | succ k => rw [hq] at h1; simp at h1
        rw [this] at h1
        exact .inr ⟨by omega, by simpa using h1.symm⟩
    rcases key i a o1 h1 h3 m1 with ⟨a1, b1, c1, d1⟩ | ⟨a1, b1⟩ <;> rcases key j a o2 h2 h4 m2 with ⟨a2, b2, c2, d2⟩ | ⟨a2, b2⟩
    · exact h.inj i j a o1 o2 c1 c2 d1 d2 m1 m2
    · exact absurd b2 b1
    · exact absurd b1 b2
    · omega
  · by_cases hn : n < A.length
    · rw [List.getElem?_append_left hn] at h1
      rw [List.getElem?_append_left (by rw [← h.len]; exact hn)] at h2
      exact (old.cell n a o' h1 h2).mono (AExt.snoc _ _) (HExt.refl _) (fun _ => rfl) fun _ _ e => e
    · rw [List.getElem?_append_right (by omega)] at h1
      rw [List.getElem?_append_right (by rw [← h.len]; omega)] at h2
      have e0 : n - A.length = 0 := by
        cases hq : n - A.length with
        | zero => rfl
        | succ k => rw [hq] at h1; simp at h1
      rw [e0] at h1
      rw [← h.len, e0] at h2
      have e1 : p = a := by simpa using h1
      have e2 : o = o' := by simpa using h2
      subst e1 e2
      exact c
/-- a cell is written -/
theorem SOk.write {n : Nat} {a : Addr} {o o' : O} {u : HO} (h : SOk K TB A S H) (ha : A[n]? = some a) (hs : S[n]? = some o) (m : o.mut = true) (m' : o'.mut = true) (c : HExt H (upd H a u) → CellOk K A (upd H a u) a o') : SOk K TB A (S.set n o') (upd H a u) ∧ HExt H (upd H a u) := by
  obtain ⟨v, e, mu, nt, nb, nf⟩ := (h.cell n a o ha hs).trk m
  have eh : HExt H (upd H a u) := HExt.upd e nt
  refine ⟨⟨by simp [h.len], fun i j b o1 o2 h1 h2 h3 h4 m1 m2 => ?_, fun i b o1 h1 h2 => ?_, fun P hP => ?_⟩, eh⟩
  · have key : ∀ (i : Nat) (o1 : O), (S.set n o')[i]? = some o1 → o1.mut = true → ∃ o2, S[i]? = some o2 ∧ o2.mut = true := fun i o1 h m1 => by
      by_cases hi : n = i
      · subst hi; exact ⟨o, hs, m⟩
      · rw [List.getElem?_set_ne hi] at h; exact ⟨o1, h, m1⟩
    obtain ⟨p1, q1, r1⟩ := key i o1 h3 m1
    obtain ⟨p2, q2, r2⟩ := key j o2 h4 m2
    exact h.inj i j b p1 p2 h1 h2 q1 q2 r1 r2
  · by_cases hi : n = i
    · subst hi
      rw [ha] at h1; cases h1
      rw [List.getElem?_set_self (List.getElem?_eq_some_iff.mp hs).1] at h2; cases h2
      exact c eh
    · rw [List.getElem?_set_ne hi] at h2
      refine (h.cell i b o1 h1 h2).mono (AExt.refl _) eh (fun m1 => ?_) fun z y e' => ?_
      · rw [upd_ne]
        rintro rfl
        exact hi (h.inj n i _ o o1 ha h1 hs h2 m m1)
      · rw [upd_ne]; exact e'
        rintro rfl
        rw [e] at e'; exact absurd (Option.some.inj e') (nf _ _)
  · obtain ⟨ps, e2, t⟩ := h.tab P hP
    refine ⟨ps, ?_, t⟩
    rw [upd_ne]; exact e2
    rintro rfl
    rw [e] at e2; exact absurd (Option.some.inj e2) (nb _)
end
end Z

set_option maxHeartbeats 2000000
/-! Z2: expressions. -/
namespace Z
open PySem PySem.Spec PyProof.Rows L2

abbrev WK := W → Store → Prop
abbrev ZE := Loc' → Store → WK → Prop
abbrev ZT := Loc' → Store → (Bool → Store → Prop) → Prop
abbrev ZA := Loc' → Store → (List W → Store → Prop) → Prop
/-- by values -/
abbrev Z1' := W → Store → WK → Prop
abbrev Z2' := W → W → Store → WK → Prop
abbrev ZC := List W → Store → WK → Prop
structure ZEnds where
  nx : Loc' → Store → Prop
  rt : WK
  bk : Loc' → Store → Prop := fun _ _ => False
  ct : Loc' → Store → Prop := fun _ _ => False
abbrev ZS := ZEnds → Loc' → Store → Prop

section
variable (K : PySem.W.Frag) (TB : List Addr)
def Aft (A : List Addr) (H : Hp) (Kc : WK) : VK := fun v H' => ∃ A' S' w, AExt A A' ∧ HExt H H' ∧ SOk K TB A' S' H' ∧ Rep K A' H' w v ∧ Kc w S'
def AftT (A : List Addr) (H : Hp) (Kc : Bool → Store → Prop) : Bool → Hp → Prop := fun b H' => ∃ A' S', AExt A A' ∧ HExt H H' ∧ SOk K TB A' S' H' ∧ Kc b S'
def AftA (A : List Addr) (H : Hp) (Kc : List W → Store → Prop) : List V → Hp → Prop := fun vs H' => ∃ A' S' ws, AExt A A' ∧ HExt H H' ∧ SOk K TB A' S' H' ∧ Reps K A' H' ws vs ∧ Kc ws S'
def AftS (A : List Addr) (H : Hp) (Kc : Loc' → Store → Prop) : L2.St → Hp → Prop := fun σ' H' => ∃ A' S' L', AExt A A' ∧ HExt H H' ∧ SOk K TB A' S' H' ∧ LOk K A' H' L' σ' ∧ Kc L' S'
def low (t : ZE) : TE := fun σ H Q => ∃ L S A Kc, SOk K TB A S H ∧ LOk K A H L σ ∧ t L S Kc ∧ ∀ v H', Aft K TB A H Kc v H' → Q v H'
def lowT (t : ZT) : TT := fun σ H Q => ∃ L S A Kc, SOk K TB A S H ∧ LOk K A H L σ ∧ t L S Kc ∧ ∀ v H', AftT K TB A H Kc v H' → Q v H'
def lowA (t : ZA) : TA := fun σ H Q => ∃ L S A Kc, SOk K TB A S H ∧ LOk K A H L σ ∧ t L S Kc ∧ ∀ v H', AftA K TB A H Kc v H' → Q v H'
def low1 (r : Z1') : V → Hp → VK → Prop := fun x H Q => ∃ A S wx Kc, SOk K TB A S H ∧ Rep K A H wx x ∧ r wx S Kc ∧ ∀ v H', Aft K TB A H Kc v H' → Q v H'
def low2 (r : Z2') : R2 := fun x y H Q => ∃ A S wx wy Kc, SOk K TB A S H ∧ Rep K A H wx x ∧ Rep K A H wy y ∧ r wx wy S Kc ∧ ∀ v H', Aft K TB A H Kc v H' → Q v H'
def lowC (r : ZC) : List V → Hp → VK → Prop := fun xs H Q => ∃ A S ws Kc, SOk K TB A S H ∧ Reps K A H ws xs ∧ r ws S Kc ∧ ∀ v H', Aft K TB A H Kc v H' → Q v H'
def lowS (t : ZS) : TS := fun D σ H => ∃ L S A ZD, SOk K TB A S H ∧ LOk K A H L σ ∧ t ZD L S ∧ (∀ σ' H', AftS K TB A H ZD.nx σ' H' → D.nx σ' H') ∧ (∀ v H', Aft K TB A H ZD.rt v H' → D.rt v H') ∧
  (∀ σ' H', AftS K TB A H ZD.bk σ' H' → D.bk σ' H') ∧ (∀ σ' H', AftS K TB A H ZD.ct σ' H' → D.ct σ' H')
end

structure ZPE (TB : List Addr) (X : Cx) (e : Expr) (t : ZE) : Prop where
  pe : PE X e (low X.K TB t)
structure ZPT (TB : List Addr) (X : Cx) (e : Expr) (t : ZT) : Prop where
  pt : PT X e (lowT X.K TB t)
structure ZPW (TB : List Addr) (X : Cx) (e : Expr) (t : ZT) : Prop where
  pw : PW X e (lowT X.K TB t)
structure ZPA (TB : List Addr) (X : Cx) (es : List Expr) (t : ZA) : Prop where
  pa : PA X es (lowA X.K TB t)
structure ZPS (TB : List Addr) (X : Cx) (st : Stmt) (t : ZS) : Prop where
  ps : PS X st (lowS X.K TB t)
structure ZPSs (TB : List Addr) (X : Cx) (st : List Stmt) (t : ZS) : Prop where
  ps : PSs X st (lowS X.K TB t)

section
variable {X : Cx} {e : Expr} {es : List Expr} {st : Stmt} {sts : List Stmt}
theorem _root_.L2.PE.conv {T T' : TE} (h : PE X e T) (c : ∀ σ H Q, T' σ H Q → T σ H Q) : PE X e T' := ⟨fun pins s σ H Q I q => h.run pins s σ H Q I (c σ H Q q)⟩
theorem _root_.L2.PT.conv {T T' : TT} (h : PT X e T) (c : ∀ σ H Q, T' σ H Q → T σ H Q) : PT X e T' := ⟨fun pins s σ H Q I q => h.run pins s σ H Q I (c σ H Q q)⟩
theorem _root_.L2.PW.conv {T T' : TT} (h : PW X e T) (c : ∀ σ H Q, T' σ H Q → T σ H Q) : PW X e T' := ⟨fun wh pins s σ H Q I q => h.run wh pins s σ H Q I (c σ H Q q)⟩
theorem _root_.L2.PA.conv {T T' : TA} (h : PA X es T) (c : ∀ σ H Q, T' σ H Q → T σ H Q) : PA X es T' := ⟨fun pos pins s σ H Q I q => h.run pos pins s σ H Q I (c σ H Q q)⟩
theorem _root_.L2.PS.conv {T T' : TS} (h : PS X st T) (c : ∀ D σ H, T' D σ H → T D σ H) : PS X st T' := ⟨fun pins s σ H D I q => h.run pins s σ H D I (c D σ H q)⟩
theorem _root_.L2.PSs.conv {T T' : TS} (h : PSs X sts T) (c : ∀ D σ H, T' D σ H → T D σ H) : PSs X sts T' := ⟨fun pins s σ H D I q => h.run pins s σ H D I (c D σ H q)⟩
end

section
variable {K : PySem.W.Frag} {TB : List Addr} {A A1 : List Addr} {H H1 : Hp}
/-- the end, a step on -/
theorem Aft.on {Kc : WK} {v : V} {H' : Hp} (ea : AExt A A1) (eh : HExt H H1) (h : Aft K TB A1 H1 Kc v H') : Aft K TB A H Kc v H' := by
  obtain ⟨A', S', w, a, b, c⟩ := h
  exact ⟨A', S', w, ea.trans a, eh.trans b, c⟩
theorem AftT.on {Kc : Bool → Store → Prop} {v : Bool} {H' : Hp} (ea : AExt A A1) (eh : HExt H H1) (h : AftT K TB A1 H1 Kc v H') : AftT K TB A H Kc v H' := by
  obtain ⟨A', S', a, b, c⟩ := h
  exact ⟨A', S', ea.trans a, eh.trans b, c⟩
theorem AftA.on {Kc : List W → Store → Prop} {v : List V} {H' : Hp} (ea : AExt A A1) (eh : HExt H H1) (h : AftA K TB A1 H1 Kc v H') : AftA K TB A H Kc v H' := by
  obtain ⟨A', S', w, a, b, c⟩ := h
  exact ⟨A', S', w, ea.trans a, eh.trans b, c⟩
theorem AftS.on {Kc : Loc' → Store → Prop} {v : L2.St} {H' : Hp} (ea : AExt A A1) (eh : HExt H H1) (h : AftS K TB A1 H1 Kc v H') : AftS K TB A H Kc v H' := by
  obtain ⟨A', S', w, a, b, c⟩ := h
  exact ⟨A', S', w, ea.trans a, eh.trans b, c⟩
theorem Aft.here {Kc : WK} {v : V} {w : W} {S : Store} (s : SOk K TB A S H) (r : Rep K A H w v) (k : Kc w S) : Aft K TB A H Kc v H := ⟨A, S, w, .refl _, .refl _, s, r, k⟩
/-- a new tuple -/
theorem Aft.tup {Kc : WK} {xs : List W} {vs : List V} {S : Store} {p : Addr} (s : SOk K TB A S H) (r : Reps K A H xs vs) (hp : H p = none) (k : Kc (.tup xs) S) : Aft K TB A H Kc (.ref p) (upd H p (.tup vs)) :=
  ⟨A, S, .tup xs, .refl _, .new hp, s.laid hp, .tup (.inl upd_same) (r.mono (.refl _) (.new hp)), k⟩
/-- a new list -/
theorem Aft.lst {Kc : WK} {xs : List W} {vs : List V} {S : Store} {p : Addr} (s : SOk K TB A S H) (r : Reps K A H xs vs) (hp : H p = none) (k : Kc (.ref S.length) (S ++ [.lst xs])) : Aft K TB A H Kc (.ref p) (upd H p (.lst vs)) := by
  have ea := AExt.snoc A p
  have eh : HExt H (upd H p (.lst vs)) := .new hp
  refine ⟨A ++ [p], S ++ [.lst xs], .ref S.length, ea, eh, s.new hp (.lst' upd_same (r.mono ea eh)), .ref ?_, k⟩
  rw [← s.len]; simp
/-- a list is read -/
theorem SOk.lst {S : Store} {n : Nat} {xs : List W} {a : Addr} (s : SOk K TB A S H) (ha : A[n]? = some a) (h : S[n]? = some (.lst xs)) : ∃ vs, H a = some (.lst vs) ∧ Reps K A H xs vs := s.cell n a _ ha h
/-- .. as a list that may be locked -/
def getL (S : Store) (n : Nat) : Option (List W) := match S[n]? with
  | some (.lst xs) => some xs
  | some (.frz xs) => some xs
  | _ => none
abbrev IsLst (S : Store) (n : Nat) (xs : List W) : Prop := getL S n = some xs
theorem isL {S : Store} {n : Nat} {xs : List W} : IsLst S n xs ↔ S[n]? = some (.lst xs) ∨ S[n]? = some (.frz xs) := by
  unfold IsLst getL
  cases h : S[n]? with
  | none => simp
  | some o => cases o <;> simp
theorem SOk.seq {S : Store} {n : Nat} {xs : List W} {a : Addr} (s : SOk K TB A S H) (ha : A[n]? = some a) (h : IsLst S n xs) : ∃ vs, SqL K H a vs ∧ Reps K A H xs vs := by
  rcases isL.mp h with h | h
  · obtain ⟨vs, e, r⟩ := s.cell n a _ ha h; exact ⟨vs, SqL.of e, r⟩
  · obtain ⟨vs, e, r⟩ := s.cell n a _ ha h; exact ⟨vs, e.sq, r⟩
/-- a list is written -/
theorem Aft.set {Kc : WK} {xs : List W} {ys : List W} {us : List V} {S : Store} {n : Nat} {a : Addr} {w : W} {v : V} (s : SOk K TB A S H) (ha : A[n]? = some a) (h : S[n]? = some (.lst xs)) (r : Reps K A H ys us) (rw' : Rep K A H w v)
    (k : Kc w (S.set n (.lst ys))) : Aft K TB A H Kc v (upd H a (.lst us)) := by
  obtain ⟨s', eh⟩ := s.write (o' := .lst ys) (u := .lst us) ha h rfl rfl fun eh => .lst' upd_same (r.mono (.refl _) eh)
  exact ⟨A, _, w, .refl _, eh, s', rw'.mono (.refl _) eh, k⟩
end

section
variable {X : Cx} {TB : List Addr} {a b c e : Expr} {es : List Expr} {ta tb tc te : ZE} {t u : ZT} {pos : Pos}
/-- a wall that no reckoning passes -/
structure Bx (p : Prop) : Prop where
  ok : p
/-- a branch -/
@[irreducible] def qIf (b : Bool) (A B : Prop) : Prop := Bx (if b = true then A else B)
theorem qIf_t {A B : Prop} : qIf true A B = A := by unfold qIf; exact propext ⟨fun h => by have := h.ok; rwa [if_pos rfl] at this, fun h => ⟨by rw [if_pos rfl]; exact h⟩⟩
theorem qIf_f {A B : Prop} : qIf false A B = B := by unfold qIf; exact propext ⟨fun h => by have := h.ok; rwa [if_neg Bool.false_ne_true] at this, fun h => ⟨by rw [if_neg Bool.false_ne_true]; exact h⟩⟩
/-- a local is written -/
@[irreducible] def qLet (i : Nat) (w : Option W) (L : Loc') (k : Loc' → Prop) : Prop := Bx (k (L.set i w))
theorem qLet_iff {i : Nat} {w : Option W} {L : Loc'} {k : Loc' → Prop} : qLet i w L k ↔ k (L.set i w) := by unfold qLet; exact ⟨fun h => h.ok, fun h => ⟨h⟩⟩
def onV (o : Option (Option W)) (P : W → Prop) : Prop := match o with
  | some (some w) => P w
  | _ => False
theorem onV_ex {o : Option (Option W)} {P : W → Prop} (h : onV o P) : ∃ w, o = some (some w) ∧ P w := by
  unfold onV at h
  split at h
  · exact ⟨_, rfl, h⟩
  · exact h.elim
def onBl (K : Bool → Prop) (w : W) : Prop := match w with
  | .bl b => K b
  | _ => False
theorem onBl_ex {K : Bool → Prop} {w : W} (h : onBl K w) : ∃ b, w = .bl b ∧ K b := by
  unfold onBl at h
  split at h
  · exact ⟨_, rfl, h⟩
  · exact h.elim
def onInt (K : Int → Prop) (w : W) : Prop := match w with
  | .int b => K b
  | _ => False
theorem onInt_ex {K : Int → Prop} {w : W} (h : onInt K w) : ∃ b, w = .int b ∧ K b := by
  unfold onInt at h
  split at h
  · exact ⟨_, rfl, h⟩
  · exact h.elim
def onTup (K : List W → Prop) (w : W) : Prop := match w with
  | .tup b => K b
  | _ => False
theorem onTup_ex {K : List W → Prop} {w : W} (h : onTup K w) : ∃ b, w = .tup b ∧ K b := by
  unfold onTup at h
  split at h
  · exact ⟨_, rfl, h⟩
  · exact h.elim
def onSome {α : Type} (o : Option α) (K : α → Prop) : Prop := match o with
  | some b => K b
  | none => False
theorem onSome_ex {α : Type} {o : Option α} {K : α → Prop} (h : onSome o K) : ∃ b, o = some b ∧ K b := by
  unfold onSome at h
  split at h
  · exact ⟨_, rfl, h⟩
  · exact h.elim
/-- the number of arguments -/
def qAr (m n : Nat) (P : Prop) : Prop := match decide (m = n) with
  | true => P
  | false => False
theorem qAr_ex {m n : Nat} {P : Prop} (h : qAr m n P) : m = n ∧ P := by
  unfold qAr at h
  split at h
  · rename_i e; exact ⟨of_decide_eq_true e, h⟩
  · exact h.elim
def zVar (i : Nat) : ZE := fun L S K => onV L[i]? fun w => K w S
def zC (w : W) : ZE := fun _ S K => K w S
theorem z_var (i : Nat) {x : Str} {pos : Pos} (hN : X.N[i]? = some x := by rfl) (hv : Vis X.env.scope x := by first | exact Or.inl rfl | exact Or.inr (Or.inl rfl) | exact Or.inr (Or.inr rfl)) (hd : (x == ("__debug__" : Str)) = false := by decide)
    (hcd : (x == ("__classdict__" : Str)) = false := by decide) : ZPE TB X (.Name x pos) (zVar i) :=
  ⟨(pe_var hN hv hd hcd).conv fun σ H Q ⟨L, S, A, Kc, s, l, h, hQ⟩ => let ⟨w, hw, k⟩ := onV_ex h; let ⟨v, h1, h2⟩ := l.2 i w hw; ⟨v, h1, hQ _ _ (.here s h2 k)⟩⟩
theorem z_int {i j pos} : ZPE TB X (.Constant (.int i) j pos) (zC (.int i)) := ⟨pe_int.conv fun σ H Q ⟨L, S, A, Kc, s, l, k, hQ⟩ => hQ _ _ (.here s (.int i) k)⟩
theorem z_bl {i j pos} : ZPE TB X (.Constant (.bool i) j pos) (zC (.bl i)) := ⟨pe_bl.conv fun σ H Q ⟨L, S, A, Kc, s, l, k, hQ⟩ => hQ _ _ (.here s (.bl i) k)⟩
theorem z_str {i j pos} : ZPE TB X (.Constant (.str i) j pos) (zC (.str i)) := ⟨pe_str.conv fun σ H Q ⟨L, S, A, Kc, s, l, k, hQ⟩ => hQ _ _ (.here s (.str i) k)⟩
theorem z_non {j pos} : ZPE TB X (.Constant .none j pos) (zC .non) := ⟨pe_non.conv fun σ H Q ⟨L, S, A, Kc, s, l, k, hQ⟩ => hQ _ _ (.here s .non k)⟩
/-- a built-in type's name as a value -/
theorem z_ty {x : Str} {n : String} {pos : Pos} (hg : Gl X x) (hm : X.mg x = none) (hv : bootBuiltins x = some (.type n)) (hn : x ≠ "__name__" := by decide) (hd : (x == ("__debug__" : Str)) = false := by decide) : ZPE TB X (.Name x pos) (zC (.ty n)) :=
  ⟨(pe_bltn (v := .ty n) hg hm hv rfl hn hd).conv fun σ H Q ⟨L, S, A, Kc, s, l, k, hQ⟩ => hQ _ _ (.here s (.ty n) k)⟩

/-- an operator of two values -/
structure ZO2 (TB : List Addr) (X : Cx) (f : Value → Value → Sem Value) (r : Z2') : Prop where
  ok : OpR X f (low2 X.K TB r)
structure ZO1 (TB : List Addr) (X : Cx) (f : Value → Sem Value) (r : Z1') : Prop where
  ok : UnR X f (low1 X.K TB r)
structure ZOC (TB : List Addr) (X : Cx) (f : Value) (r : ZC) : Prop where
  ok : CallR X f (lowC X.K TB r)
def zOp (r : Z2') (ta tb : ZE) : ZE := fun L S K => ta L S fun x S1 => tb L S1 fun y S2 => r x y S2 K
def zUn (r : Z1') (ta : ZE) : ZE := fun L S K => ta L S fun x S1 => r x S1 K
theorem low_op {K : PySem.W.Frag} {r : Z2'} {σ : L2.St} {H : Hp} {Q : VK} (h : low K TB (zOp r ta tb) σ H Q) : tOp (low2 K TB r) (low K TB ta) (low K TB tb) σ H Q := by
  obtain ⟨L, S, A, Kc, s, l, h, hQ⟩ := h
  refine ⟨L, S, A, _, s, l, h, fun v1 H1 ⟨A1, S1, w1, ea1, eh1, s1, r1, h1⟩ => ?_⟩
  refine ⟨L, S1, A1, _, s1, l.mono ea1 eh1, h1, fun v2 H2 ⟨A2, S2, w2, ea2, eh2, s2, r2, h2⟩ => ?_⟩
  exact ⟨A2, S2, w1, w2, Kc, s2, r1.mono ea2 eh2, r2, h2, fun v H' q => hQ v H' ((q.on ea2 eh2).on ea1 eh1)⟩
theorem z_op {op : Operator} {r : Z2'} (ho : ZO2 TB X (binaryOp op) r) (ha : ZPE TB X a ta) (hb : ZPE TB X b tb) : ZPE TB X (.BinOp a op b pos) (zOp r ta tb) :=
  ⟨(pe_op ho.ok ha.pe hb.pe).conv fun σ H Q h => low_op h⟩
theorem z_cmp {op : CmpOp} {r : Z2'} (ho : ZO2 TB X (compareOp op) r) (ha : ZPE TB X a ta) (hb : ZPE TB X b tb) (hm : behindInMarks op b = false) : ZPE TB X (.Compare a [op] [b] pos) (zOp r ta tb) :=
  ⟨(pe_cmpR ho.ok ha.pe hb.pe hm).conv fun σ H Q h => low_op h⟩
theorem z_ix {r : Z2'} (ho : IxR X (low2 X.K TB r)) (ha : ZPE TB X a ta) (hb : ZPE TB X b tb) (hs : PlainIx b) : ZPE TB X (.Subscript a b pos) (zOp r ta tb) :=
  ⟨(pe_ix ho ha.pe hb.pe hs).conv fun σ H Q h => low_op h⟩
theorem z_un {op : UnaryOp} {r : Z1'} (ho : ZO1 TB X (unaryOp op) r) (ha : ZPE TB X a ta) : ZPE TB X (.UnaryOp op a pos) (zUn r ta) :=
  ⟨(pe_un ho.ok ha.pe).conv fun σ H Q ⟨L, S, A, Kc, s, l, h, hQ⟩ => ⟨L, S, A, _, s, l, h, fun v1 H1 ⟨A1, S1, w1, ea1, eh1, s1, r1, h1⟩ => ⟨A1, S1, w1, Kc, s1, r1, h1, fun v H' q => hQ v H' (q.on ea1 eh1)⟩⟩⟩

/-! ### tests -/
/-- a test that is a value's truth -/
def W.truth (S : Store) : W → Option Bool
  | .non => some false
  | .bl b => some b
  | .int i => some (i != 0)
  | .str y => if y.length ≤ sizeLine then some ((y.length : Int) != 0) else none
  | .tup xs => some (!xs.isEmpty)
  | .ref n => match S[n]? with
    | some (.lst xs) => some (!xs.isEmpty)
    | some (.frz xs) => some (!xs.isEmpty)
    | some (.dic kvs) => some (!kvs.isEmpty)
    | none => none
  | .ty _ => none
theorem Reps.empty {K : PySem.W.Frag} {A : List Addr} {H : Hp} {ws : List W} {vs : List V} (h : Reps K A H ws vs) : ws.isEmpty = vs.isEmpty := by cases h <;> rfl
theorem tru_of {K : PySem.W.Frag} {A : List Addr} {S : Store} {H : Hp} {w : W} {v : V} {k : Bool} (s : SOk K TB A S H) (r : Rep K A H w v) (h : w.truth S = some k) : TruV K v H k := by
  cases r with
  | non => cases h; rfl
  | bl b => cases h; rfl
  | int i => cases h; rfl
  | str x =>
    by_cases hx : x.length ≤ sizeLine
    · simp only [W.truth, hx, if_true, Option.some.injEq] at h
      exact ⟨hx, h.symm⟩
    · simp [W.truth, hx] at h
  | ty n => cases h
  | tup h1 h2 =>
    cases h
    exact .inr (.inl ⟨_, h1.sq, by rw [h2.empty]⟩)
  | @ref a n h1 =>
    cases hc : S[n]? with
    | none => simp [W.truth, hc] at h
    | some o =>
      cases o with
      | lst xs =>
        simp only [W.truth, hc, Option.some.injEq] at h
        obtain ⟨vs, e, r⟩ := s.seq h1 (isL.mpr (.inl hc))
        exact .inl ⟨vs, e, by rw [← h, r.empty]⟩
      | frz xs =>
        simp only [W.truth, hc, Option.some.injEq] at h
        obtain ⟨vs, e, r⟩ := s.seq h1 (isL.mpr (.inr hc))
        exact .inl ⟨vs, e, by rw [← h, r.empty]⟩
      | dic kvs =>
        simp only [W.truth, hc, Option.some.injEq] at h
        obtain ⟨kws, e, r, _⟩ := s.cell n a _ h1 hc
        refine .inr (.inr ⟨kws, e, ?_⟩)
        have : kvs.isEmpty = kws.isEmpty := by cases kvs <;> cases kws <;> simp at r ⊢
        rw [← h, this]
def qTru (K : Bool → Store → Prop) : WK := fun x S1 => onSome (x.truth S1) fun k => K k S1
def zTru (ta : ZE) : ZT := fun L S K => ta L S (qTru K)
/-- an expression that gives a bool -/
def qTb (K : Bool → Store → Prop) : WK := fun x S1 => onBl (fun k => K k S1) x
def zTb (ta : ZE) : ZT := fun L S K => ta L S (qTb K)
theorem z_truth (ha : ZPE TB X a ta) (he : ∀ whole, isTrue a X.env whole = (do let v ← whole; standAt a.pos; holding [v] (truthy v)) := by intro _; rfl) : ZPT TB X a (zTru ta) :=
  ⟨(pt_truth ha.pe he).conv fun σ H Q ⟨L, S, A, Kc, s, l, h, hQ⟩ => ⟨L, S, A, _, s, l, h, fun v1 H1 ⟨A1, S1, w1, ea1, eh1, s1, r1, h0⟩ => let ⟨k, h1, h2⟩ := onSome_ex h0; ⟨k, tru_of s1 r1 h1, hQ _ _ ⟨A1, S1, ea1, eh1, s1, h2⟩⟩⟩⟩
theorem z_tcmp {op : CmpOp} {r : Z2'} (ho : ZO2 TB X (compareOp op) r) (ha : ZPE TB X a ta) (hb : ZPE TB X b tb) (hm : behindInMarks op b = false) : ZPT TB X (.Compare a [op] [b] pos) (zTb (zOp r ta tb)) :=
  ⟨(pt_cmpR ho.ok ha.pe hb.pe hm).conv fun σ H Q ⟨L, S, A, Kc, s, l, h, hQ⟩ => low_op ⟨L, S, A, _, s, l, h, fun v1 H1 ⟨A1, S1, w1, ea1, eh1, s1, r1, h0⟩ => by
    obtain ⟨k, h1, h2⟩ := onBl_ex h0
    subst h1
    cases r1
    exact ⟨k, rfl, hQ _ _ ⟨A1, S1, ea1, eh1, s1, h2⟩⟩⟩⟩
def zChain (r r' : Z2') (ta tb tc : ZE) : ZE := fun L S K => ta L S fun x S1 => tb L S1 fun y S2 => r x y S2 fun z S3 => onBl (fun k => qIf k (tc L S3 fun c S4 => r' y c S4 K) (K (.bl false) S3)) z
end
end Z

set_option maxHeartbeats 2000000
/-! Z3: operators by values. -/
namespace Z
open PySem PySem.Spec PyProof.Rows L2

section
variable {X : Cx} {TB : List Addr}

/-! ### + - * // % and bits -/
@[irreducible] def qCat (n m : Nat) (S : Store) (K : WK) : Prop := Bx (∃ xs ys, S[n]? = some (.lst xs) ∧ S[m]? = some (.lst ys) ∧ xs.length + ys.length ≤ sizeLine ∧ K (.ref S.length) (S ++ [.lst (xs ++ ys)]))
def qAdd : Z2' := fun x y S K => match x, y with
  | .int i, .int j => K (.int (i + j)) S
  | .int i, .bl b => K (.int (i + if b then 1 else 0)) S
  | .str a, .str b => a.length + b.length ≤ sizeLine ∧ K (.str (a ++ b)) S
  | .tup a, .tup b => a.length + b.length ≤ sizeLine ∧ K (.tup (a ++ b)) S
  | .ref n, .ref m => qCat n m S K
  | _, _ => False
theorem Reps.nil_iff {K : PySem.W.Frag} {A : List Addr} {H : Hp} {ws : List W} {vs : List V} (h : Reps K A H ws vs) : vs = [] ↔ ws = [] := by cases h <;> simp
theorem zo_add : ZO2 TB X (binaryOp .Add) qAdd := by
  refine ⟨fun pins s σ H x y v u Q I rx ry h => ?_⟩
  obtain ⟨A, S, wx, wy, Kc, sk, r1, r2, h, hQ⟩ := h
  cases r1 with
  | int i =>
    cases r2 with
    | int j => exact op_add pins s σ H _ _ v u Q I rx ry ⟨i, j, rfl, rfl, hQ _ _ (.here sk (.int _) h)⟩
    | bl b => exact op_add_ib pins s σ H _ _ v u Q I rx ry ⟨i, b, rfl, rfl, hQ _ _ (by
        have e : b2i b = (if b then 1 else 0 : Int) := by cases b <;> rfl
        rw [e]; exact .here sk (.int _) h)⟩
    | _ => exact h.elim
  | str a =>
    cases r2 with
    | str b => exact op_add_str pins s σ H _ _ v u Q I rx ry ⟨a, b, rfl, rfl, h.1, hQ _ _ (.here sk (.str _) h.2)⟩
    | _ => exact h.elim
  | tup h1 q1 =>
    cases r2 with
    | tup h2 q2 =>
      refine op_catA pins s σ H _ _ v u Q I rx ry ⟨_, _, _, _, rfl, rfl, h1.sq, h2.sq, by rw [← q1.length, ← q2.length]; exact h.1, fun e => hQ _ _ ?_, fun _ e => hQ _ _ ?_, fun _ _ p hp => hQ _ _ ?_⟩
      · have := q1.nil_iff.mp e
        subst this
        exact .here sk (.tup h2 q2) h.2
      · have := q2.nil_iff.mp e
        subst this
        have h' := h.2
        rw [List.append_nil] at h'
        exact .here sk (.tup h1 q1) h'
      · exact .tup sk (q1.append q2) hp h.2
    | _ => exact h.elim
  | @ref a n h1 =>
    cases r2 with
    | @ref b m h2 =>
      have h9 : qCat n m S Kc := h
      unfold qCat at h9
      replace h9 := h9.ok
      obtain ⟨xs, ys, e1, e2, hz, k⟩ := h9
      obtain ⟨vs, f1, q1⟩ := sk.lst h1 e1
      obtain ⟨us, f2, q2⟩ := sk.lst h2 e2
      exact op_cat pins s σ H _ _ v u Q I rx ry ⟨_, _, _, _, rfl, rfl, f1, f2, by rw [← q1.length, ← q2.length]; exact hz, fun p hp => hQ _ _ (.lst sk (q1.append q2) hp k)⟩
    | _ => exact h.elim
  | _ => exact h.elim
def qSub : Z2' := fun x y S K => match x, y with
  | .int i, .int j => K (.int (i - j)) S
  | _, _ => False
theorem zo_sub : ZO2 TB X (binaryOp .Sub) qSub := by
  refine ⟨fun pins s σ H x y v u Q I rx ry h => ?_⟩
  obtain ⟨A, S, wx, wy, Kc, sk, r1, r2, h, hQ⟩ := h
  cases r1 with
  | int i =>
    cases r2 with
    | int j => exact op_sub pins s σ H _ _ v u Q I rx ry ⟨i, j, rfl, rfl, hQ _ _ (.here sk (.int _) h)⟩
    | _ => exact h.elim
  | _ => exact h.elim
/-- when a product is told: one side below 2^64, or both below a million bits -/
def MulOk (i j : Int) : Prop := (-(2 ^ 64) < i ∧ i < 2 ^ 64) ∨ (-(2 ^ 64) < j ∧ j < 2 ^ 64) ∨ i.natAbs.log2 + j.natAbs.log2 < 1000000
theorem op_mulA : OpR X (binaryOp .Mult) (rI MulOk fun i j => .int (i * j)) := by
  intro pins s σ H x y v u Q I rx ry h
  obtain ⟨i, j, e1, e2, hc, q⟩ := h
  rcases hc with hc | hc | hc
  · exact op_mul pins s σ H x y v u Q I rx ry ⟨i, j, e1, e2, .inl hc, q⟩
  · exact op_mul pins s σ H x y v u Q I rx ry ⟨i, j, e1, e2, .inr hc, q⟩
  · exact op_mulW pins s σ H x y v u Q I rx ry ⟨i, j, e1, e2, hc, q⟩
/-- xs k times -/
def times {α : Type} (xs : List α) (k : Int) : List α := (List.replicate k.toNat xs).flatten
def qMul : Z2' := fun x y S K => match x, y with
  | .int i, .int j => MulOk i j ∧ K (.int (i * j)) S
  | .tup xs, .int k => 2 ≤ k ∧ k ≤ 1000 ∧ xs.length ≤ 1000 ∧ xs ≠ [] ∧ K (.tup (times xs k)) S
  | .ref n, .int k => ∃ xs, S[n]? = some (.lst xs) ∧ -(2 ^ 63) ≤ k ∧ k < 2 ^ 63 ∧ xs.length * k.toNat ≤ sizeLine ∧ K (.ref S.length) (S ++ [.lst (times xs k)])
  | _, _ => False
theorem Reps.rep {K : PySem.W.Frag} {A : List Addr} {H : Hp} {ws : List W} {vs : List V} (h : Reps K A H ws vs) : ∀ k : Nat, Reps K A H (List.replicate k ws).flatten (List.replicate k vs).flatten
  | 0 => .nil
  | k + 1 => by
    rw [List.replicate_succ, List.replicate_succ, List.flatten_cons, List.flatten_cons]
    exact h.append (Reps.rep h k)
theorem zo_mul : ZO2 TB X (binaryOp .Mult) qMul := by
  refine ⟨fun pins s σ H x y v u Q I rx ry h => ?_⟩
  obtain ⟨A, S, wx, wy, Kc, sk, r1, r2, h, hQ⟩ := h
  cases r1 with
  | int i =>
    cases r2 with
    | int j => exact op_mulA pins s σ H _ _ v u Q I rx ry ⟨i, j, rfl, rfl, h.1, hQ _ _ (.here sk (.int _) h.2)⟩
    | _ => exact h.elim
  | tup h1 q1 =>
    cases r2 with
    | int k =>
      obtain ⟨a1, a2, a3, a4, a5⟩ := h
      exact op_repT pins s σ H _ _ v u Q I rx ry ⟨_, k, _, rfl, rfl, h1.sq, fun e => a4 (q1.nil_iff.mp e), a1, a2, by rw [← q1.length]; exact a3, fun p hp => hQ _ _ (.tup sk (q1.rep _) hp a5)⟩
    | _ => exact h.elim
  | @ref a n h1 =>
    cases r2 with
    | int k =>
      obtain ⟨xs, e1, a1, a2, a3, a5⟩ := h
      obtain ⟨vs, f1, q1⟩ := sk.lst h1 e1
      exact op_rep pins s σ H _ _ v u Q I rx ry ⟨_, k, _, rfl, rfl, f1, a1, a2, by rw [← q1.length]; exact a3, fun p hp => hQ _ _ (.lst sk (q1.rep _) hp a5)⟩
    | _ => exact h.elim
  | _ => exact h.elim
/-- a divisor that is told -/
def DivOk (_ j : Int) : Prop := 0 < j ∧ j.natAbs.log2 < 9000
def qDiv : Z2' := fun x y S K => match x, y with
  | .int i, .int j => DivOk i j ∧ K (.int (i / j)) S
  | _, _ => False
theorem zo_div : ZO2 TB X (binaryOp .FloorDiv) qDiv := by
  refine ⟨fun pins s σ H x y v u Q I rx ry h => ?_⟩
  obtain ⟨A, S, wx, wy, Kc, sk, r1, r2, h, hQ⟩ := h
  cases r1 with
  | int i =>
    cases r2 with
    | int j => exact op_fdivW pins s σ H _ _ v u Q I rx ry ⟨i, j, rfl, rfl, h.1, hQ _ _ (.here sk (.int _) h.2)⟩
    | _ => exact h.elim
  | _ => exact h.elim
def qMod : Z2' := fun x y S K => match x, y with
  | .int i, .int j => 0 < j ∧ K (.int (i % j)) S
  | _, _ => False
theorem zo_mod : ZO2 TB X (binaryOp .Mod) qMod := by
  refine ⟨fun pins s σ H x y v u Q I rx ry h => ?_⟩
  obtain ⟨A, S, wx, wy, Kc, sk, r1, r2, h, hQ⟩ := h
  cases r1 with
  | int i =>
    cases r2 with
    | int j => exact op_mod pins s σ H _ _ v u Q I rx ry ⟨i, j, rfl, rfl, h.1, hQ _ _ (.here sk (.int _) h.2)⟩
    | _ => exact h.elim
  | _ => exact h.elim
def PowOk (i j : Int) : Prop := 0 ≤ j ∧ j ≤ 1000000 ∧ i.natAbs < 2 ^ 64
def qIC (C : Int → Int → Prop) (g : Int → Int → Int) : Z2' := fun x y S K => match x, y with
  | .int i, .int j => C i j ∧ K (.int (g i j)) S
  | _, _ => False
theorem zo_ic {f : Value → Value → Sem Value} {C : Int → Int → Prop} {g : Int → Int → Int} (h0 : OpR X f (rI C fun i j => .int (g i j))) : ZO2 TB X f (qIC C g) := by
  refine ⟨fun pins s σ H x y v u Q I rx ry h => ?_⟩
  obtain ⟨A, S, wx, wy, Kc, sk, r1, r2, h, hQ⟩ := h
  cases r1 with
  | int i =>
    cases r2 with
    | int j => exact h0 pins s σ H _ _ v u Q I rx ry ⟨i, j, rfl, rfl, h.1, hQ _ _ (.here sk (.int _) h.2)⟩
    | _ => exact h.elim
  | _ => exact h.elim
def qI0' (g : Int → Int → Int) : Z2' := fun x y S K => match x, y with
  | .int i, .int j => K (.int (g i j)) S
  | _, _ => False
theorem zo_i0 {f : Value → Value → Sem Value} {g : Int → Int → Int} (h0 : OpR X f (rI0 fun i j => .int (g i j))) : ZO2 TB X f (qI0' g) := by
  refine ⟨fun pins s σ H x y v u Q I rx ry h => ?_⟩
  obtain ⟨A, S, wx, wy, Kc, sk, r1, r2, h, hQ⟩ := h
  cases r1 with
  | int i =>
    cases r2 with
    | int j => exact h0 pins s σ H _ _ v u Q I rx ry ⟨i, j, rfl, rfl, hQ _ _ (.here sk (.int _) h)⟩
    | _ => exact h.elim
  | _ => exact h.elim
def qPow : Z2' := qIC PowOk fun i j => i ^ j.toNat
theorem zo_pow : ZO2 TB X (binaryOp .Pow) qPow := zo_ic op_pow
def qShl : Z2' := qIC PowOk fun i j => i * 2 ^ j.toNat
theorem zo_shl : ZO2 TB X (binaryOp .LShift) qShl := zo_ic op_shl
def qShr : Z2' := qIC (fun _ j => 0 ≤ j) fun i j => i / 2 ^ j.toNat
theorem zo_shr : ZO2 TB X (binaryOp .RShift) qShr := zo_ic op_shr
def qAnd : Z2' := qI0' Builtin.bitAnd
theorem zo_and : ZO2 TB X (binaryOp .BitAnd) qAnd := zo_i0 op_and
def qOr : Z2' := qI0' Builtin.bitOr
theorem zo_or : ZO2 TB X (binaryOp .BitOr) qOr := zo_i0 op_or
def qXor : Z2' := qI0' Builtin.bitXor
theorem zo_xor : ZO2 TB X (binaryOp .BitXor) qXor := zo_i0 op_xor
def qNeg : Z1' := fun x S K => match x with
  | .int i => K (.int (-i)) S
  | _ => False
theorem zo_neg : ZO1 TB X (unaryOp .USub) qNeg := by
  refine ⟨fun pins s σ H x v Q I rx h => ?_⟩
  obtain ⟨A, S, wx, Kc, sk, r1, h, hQ⟩ := h
  cases r1 with
  | int i => exact un_neg pins s σ H _ v Q I rx ⟨i, rfl, hQ _ _ (.here sk (.int _) h)⟩
  | _ => exact h.elim

/-! ### comparisons -/
def qIB (g : Int → Int → Bool) (t : List W → List W → Bool → Prop) (st : Str → Str → Bool) : Z2' := fun x y S K => match x, y with
  | .int i, .int j => K (.bl (g i j)) S
  | .str a, .str b => K (.bl (st a b)) S
  | .tup a, .tup b => ∃ k, t a b k ∧ K (.bl k) S
  | _, _ => False
/-- < of tuples of ints -/
def LexLt (a b : List W) (k : Bool) : Prop := ∃ ns ms, a = ns.map W.int ∧ b = ms.map W.int ∧ k = HT.lexLt ns ms
theorem Reps.ints {K : PySem.W.Frag} {A : List Addr} {H : Hp} : ∀ {ns : List Int} {vs : List V}, Reps K A H (ns.map W.int) vs → vs = ns.map V.int
  | [], _, .nil => rfl
  | n :: ns, _, .cons (.int _) t => by rw [List.map_cons, Reps.ints t]
def NoTup : List W → List W → Bool → Prop := fun _ _ _ => False
def qLt : Z2' := qIB (fun i j => decide (i < j)) LexLt fun a b => decide (a.cps.toList < b.cps.toList)
theorem zo_lt (hu : X.A.units < cLine) : ZO2 TB X (compareOp .Lt) qLt := by
  refine ⟨fun pins s σ H x y v u Q I rx ry h => ?_⟩
  obtain ⟨A, S, wx, wy, Kc, sk, r1, r2, h, hQ⟩ := h
  cases r1 with
  | int i =>
    cases r2 with
    | int j => exact op_lt pins s σ H _ _ v u Q I rx ry ⟨i, j, rfl, rfl, hQ _ _ (.here sk (.bl _) h)⟩
    | _ => exact h.elim
  | str i =>
    cases r2 with
    | str j => exact op_lt_str pins s σ H _ _ v u Q I rx ry ⟨i, j, rfl, rfl, hQ _ _ (.here sk (.bl _) h)⟩
    | _ => exact h.elim
  | tup h1 q1 =>
    cases r2 with
    | tup h2 q2 =>
      obtain ⟨k, ⟨ns, ms, rfl, rfl, rfl⟩, h⟩ := h
      have e1 := q1.ints
      have e2 := q2.ints
      subst e1 e2
      exact op_ltT hu pins s σ H _ _ v u Q I rx ry ⟨_, _, ns, ms, rfl, rfl, h1.sq, h2.sq, hQ _ _ (.here sk (.bl _) h)⟩
    | _ => exact h.elim
  | _ => exact h.elim
def qLe : Z2' := qIB (fun i j => decide (i ≤ j)) NoTup fun a b => decide (a.cps.toList ≤ b.cps.toList)
def qGt : Z2' := fun x y S K => match x, y with
  | .int i, .int j => K (.bl (decide (j < i))) S
  | _, _ => False
def qGe : Z2' := fun x y S K => match x, y with
  | .int i, .int j => K (.bl (decide (j ≤ i))) S
  | _, _ => False
def qLeI : Z2' := fun x y S K => match x, y with
  | .int i, .int j => K (.bl (decide (i ≤ j))) S
  | _, _ => False
theorem zo_le : ZO2 TB X (compareOp .LtE) qLeI := by
  refine ⟨fun pins s σ H x y v u Q I rx ry h => ?_⟩
  obtain ⟨A, S, wx, wy, Kc, sk, r1, r2, h, hQ⟩ := h
  cases r1 with
  | int i =>
    cases r2 with
    | int j => exact op_le pins s σ H _ _ v u Q I rx ry ⟨i, j, rfl, rfl, hQ _ _ (.here sk (.bl _) h)⟩
    | _ => exact h.elim
  | _ => exact h.elim
theorem zo_gt : ZO2 TB X (compareOp .Gt) qGt := by
  refine ⟨fun pins s σ H x y v u Q I rx ry h => ?_⟩
  obtain ⟨A, S, wx, wy, Kc, sk, r1, r2, h, hQ⟩ := h
  cases r1 with
  | int i =>
    cases r2 with
    | int j => exact op_gt pins s σ H _ _ v u Q I rx ry ⟨i, j, rfl, rfl, hQ _ _ (.here sk (.bl _) h)⟩
    | _ => exact h.elim
  | _ => exact h.elim
theorem zo_ge : ZO2 TB X (compareOp .GtE) qGe := by
  refine ⟨fun pins s σ H x y v u Q I rx ry h => ?_⟩
  obtain ⟨A, S, wx, wy, Kc, sk, r1, r2, h, hQ⟩ := h
  cases r1 with
  | int i =>
    cases r2 with
    | int j => exact op_ge pins s σ H _ _ v u Q I rx ry ⟨i, j, rfl, rfl, hQ _ _ (.here sk (.bl _) h)⟩
    | _ => exact h.elim
  | _ => exact h.elim

end
end Z

set_option maxHeartbeats 2000000
/-! Z4: equality and membership of data, subscripts, slices, displays, and / or / not, built-in calls, methods. -/
namespace Z
open PySem PySem.Spec PyProof.Rows L2

mutual
/-- a value as data, the store's lists within -/
inductive DataOf (S : Store) : W → PyData → Prop
  | non : DataOf S .non .none
  | bl (b : Bool) : DataOf S (.bl b) (.bool b)
  | int (i : Int) : DataOf S (.int i) (.int i)
  | str (x : Str) : DataOf S (.str x) (.str x)
  | tup {xs : List W} {ds : List PyData} : DataAll S xs ds → DataOf S (.tup xs) (.tuple ds)
  | ref {n : Nat} {xs : List W} {ds : List PyData} : IsLst S n xs → DataAll S xs ds → DataOf S (.ref n) (.list ds)
inductive DataAll (S : Store) : List W → List PyData → Prop
  | nil : DataAll S [] []
  | cons {x : W} {xs : List W} {d : PyData} {ds : List PyData} : DataOf S x d → DataAll S xs ds → DataAll S (x :: xs) (d :: ds)
end
section
variable {K : PySem.W.Frag} {TB A : List Addr} {S : Store} {H : Hp}
mutual
theorem DataOf.dp (s : SOk K TB A S H) : ∀ {w : W} {d : PyData} {v : V}, DataOf S w d → Rep K A H w v → Dp K H v d
  | _, _, _, .non, .non => .non
  | _, _, _, .bl b, .bl _ => .bl b
  | _, _, _, .int b, .int _ => .int b
  | _, _, _, .str b, .str _ => .str b
  | _, _, _, .tup h, .tup t r => .tup t.sq (DataAll.dp s h r)
  | _, _, _, .ref e h, .ref t => let ⟨_, q, r⟩ := s.seq t e; .lst q (DataAll.dp s h r)
theorem DataAll.dp (s : SOk K TB A S H) : ∀ {ws : List W} {ds : List PyData} {vs : List V}, DataAll S ws ds → Reps K A H ws vs → DpAll K H vs ds
  | _, _, _, .nil, .nil => .nil
  | _, _, _, .cons h t, .cons r q => .cons (DataOf.dp s h r) (DataAll.dp s t q)
end
mutual
theorem DataOf.fn : ∀ {w : W} {d e : PyData}, DataOf S w d → DataOf S w e → d = e
  | _, _, _, .non, .non => rfl
  | _, _, _, .bl b, .bl _ => rfl
  | _, _, _, .int b, .int _ => rfl
  | _, _, _, .str b, .str _ => rfl
  | _, _, _, .tup h, .tup r => by rw [DataAll.fn h r]
  | _, _, _, .ref e h, .ref e' h' => by
    have q := e.symm.trans e'
    cases q
    rw [DataAll.fn h h']
theorem DataAll.fn : ∀ {ws : List W} {ds es : List PyData}, DataAll S ws ds → DataAll S ws es → ds = es
  | _, _, _, .nil, .nil => rfl
  | _, _, _, .cons h t, .cons r q => by rw [DataOf.fn h r, DataAll.fn t q]
end
end

section
variable {X : Cx} {TB : List Addr} {a b c e : Expr} {es : List Expr} {ta tb tc te : ZE} {t u : ZT} {pos : Pos}
@[irreducible] def qEq (neg : Bool) : Z2' := fun x y S K => Bx (∃ d e, DataOf S x d ∧ DataOf S y e ∧ SeqAt.shaped d = true ∧ SeqAt.shaped e = true ∧ K (.bl (neg ^^ PyData.eqv d e)) S)
theorem zo_eq (hu : X.A.units + 64 < cLine) : ZO2 TB X (compareOp .Eq) (qEq false) := by
  refine ⟨fun pins s σ H x y v u Q I rx ry h => ?_⟩
  obtain ⟨A, S, wx, wy, Kc, sk, r1, r2, h, hQ⟩ := h
  unfold qEq at h
  replace h := h.ok
  obtain ⟨d, e, h1, h2, s1, s2, h⟩ := h
  rw [Bool.false_xor] at h
  exact op_eqD hu pins s σ H _ _ v u Q I rx ry ⟨d, e, h1.dp sk r1, h2.dp sk r2, s1, s2, hQ _ _ (.here sk (.bl _) h)⟩
theorem zo_ne (hu : X.A.units + 64 < cLine) : ZO2 TB X (compareOp .NotEq) (qEq true) := by
  refine ⟨fun pins s σ H x y v u Q I rx ry h => ?_⟩
  obtain ⟨A, S, wx, wy, Kc, sk, r1, r2, h, hQ⟩ := h
  unfold qEq at h
  replace h := h.ok
  obtain ⟨d, e, h1, h2, s1, s2, h⟩ := h
  rw [Bool.true_xor] at h
  exact op_neD hu pins s σ H _ _ v u Q I rx ry ⟨d, e, h1.dp sk r1, h2.dp sk r2, s1, s2, hQ _ _ (.here sk (.bl _) h)⟩
/-- x in y: y a list or a tuple, a text -/
@[irreducible] def qIn (neg : Bool) : Z2' := fun x y S K => Bx ((∃ d ds, DataOf S x d ∧ (DataOf S y (.list ds) ∨ DataOf S y (.tuple ds)) ∧ SeqAt.shaped d = true ∧ SeqAt.shaped (.list ds) = true ∧ K (.bl (neg ^^ ds.any fun z => PyData.eqv z d)) S) ∨
  ∃ i j, x = .str i ∧ y = .str j ∧ K (.bl (neg ^^ !(Builtin.Str.occurrences j i 0 j.length 1).isEmpty)) S)
theorem shaped_list_tuple {ds : List PyData} (h : SeqAt.shaped (.list ds) = true) : PyData.canLayAll0 ds = true := SeqAt.canLay_of_shaped h
theorem zo_in (hu : X.A.units + 65 < cLine) : ZO2 TB X (compareOp .In) (qIn false) := by
  refine ⟨fun pins s σ H x y v u Q I rx ry h => ?_⟩
  obtain ⟨A, S, wx, wy, Kc, sk, r1, r2, h, hQ⟩ := h
  unfold qIn at h
  replace h := h.ok
  rcases h with ⟨d, ds, h1, h2 | h2, s1, s2, h⟩ | ⟨i, j, rfl, rfl, h⟩
  · rw [Bool.false_xor] at h
    exact op_inD hu pins s σ H _ _ v u Q I rx ry ⟨d, ds, h1.dp sk r1, h2.dp sk r2, s1, s2, hQ _ _ (.here sk (.bl _) h)⟩
  · rw [Bool.false_xor] at h
    obtain ⟨as, q1⟩ := Dp.reads I d x v (h1.dp sk r1) rx
    obtain ⟨bs, q2⟩ := Dp.reads I (.tuple ds) y u (h2.dp sk r2) ry
    exact SeqAt.in_tuple_reads q2 q1 (SeqAt.canLay_of_shaped s2) (SeqAt.canLay_of_shaped s1) (room_in_shaped s1 hu) ⟨.bl _, H, I, rfl, hQ _ _ (.here sk (.bl _) h)⟩
  · rw [Bool.false_xor] at h
    cases r1
    cases r2
    exact op_in_str pins s σ H _ _ v u Q I rx ry ⟨i, j, rfl, rfl, hQ _ _ (.here sk (.bl _) h)⟩
theorem zo_notin (hu : X.A.units + 65 < cLine) : ZO2 TB X (compareOp .NotIn) (qIn true) := by
  refine ⟨fun pins s σ H x y v u Q I rx ry h => ?_⟩
  obtain ⟨A, S, wx, wy, Kc, sk, r1, r2, h, hQ⟩ := h
  unfold qIn at h
  replace h := h.ok
  rcases h with ⟨d, ds, h1, h2 | h2, s1, s2, h⟩ | ⟨i, j, rfl, rfl, h⟩
  · rw [Bool.true_xor] at h
    exact op_notInD hu pins s σ H _ _ v u Q I rx ry ⟨d, ds, h1.dp sk r1, h2.dp sk r2, s1, s2, hQ _ _ (.here sk (.bl _) h)⟩
  · rw [Bool.true_xor] at h
    obtain ⟨as, q1⟩ := Dp.reads I d x v (h1.dp sk r1) rx
    obtain ⟨bs, q2⟩ := Dp.reads I (.tuple ds) y u (h2.dp sk r2) ry
    exact SeqAt.notIn_tuple_reads q2 q1 (SeqAt.canLay_of_shaped s2) (SeqAt.canLay_of_shaped s1) (room_in_shaped s1 hu) ⟨.bl _, H, I, rfl, hQ _ _ (.here sk (.bl _) h)⟩
  · rw [Bool.true_xor] at h
    cases r1
    cases r2
    exact op_notIn_str pins s σ H _ _ v u Q I rx ry ⟨i, j, rfl, rfl, hQ _ _ (.here sk (.bl _) h)⟩
/-- is None -/
def isNon : W → Bool
  | .non => true
  | _ => false
@[irreducible] def qIsN (neg : Bool) : Z2' := fun x y S K => Bx (y = .non ∧ K (.bl (neg ^^ isNon x)) S)
theorem Rep.non_iff {K : PySem.W.Frag} {A : List Addr} {H : Hp} {w : W} {v : V} (r : Rep K A H w v) : decide (v = .non) = isNon w := by cases r <;> simp [isNon]
theorem zo_is : ZO2 TB X (compareOp .Is) (qIsN false) := by
  refine ⟨fun pins s σ H x y v u Q I rx ry h => ?_⟩
  obtain ⟨A, S, wx, wy, Kc, sk, r1, r2, h, hQ⟩ := h
  unfold qIsN at h
  replace h := h.ok
  obtain ⟨rfl, h⟩ := h
  cases r2
  rw [Bool.false_xor, ← r1.non_iff] at h
  exact op_isN pins s σ H _ _ v u Q I rx ry ⟨rfl, hQ _ _ (.here sk (.bl _) h)⟩
theorem zo_isnot : ZO2 TB X (compareOp .IsNot) (qIsN true) := by
  refine ⟨fun pins s σ H x y v u Q I rx ry h => ?_⟩
  obtain ⟨A, S, wx, wy, Kc, sk, r1, r2, h, hQ⟩ := h
  unfold qIsN at h
  replace h := h.ok
  obtain ⟨rfl, h⟩ := h
  cases r2
  rw [Bool.true_xor, ← r1.non_iff] at h
  exact op_notN pins s σ H _ _ v u Q I rx ry ⟨rfl, hQ _ _ (.here sk (.bl _) h)⟩
/-- a < b < c -/
theorem z_chain {op op' : CmpOp} {r r' : Z2'} (ho : ZO2 TB X (compareOp op) r) (ho' : ZO2 TB X (compareOp op') r') (ha : ZPE TB X a ta) (hb : ZPE TB X b tb) (hc : ZPE TB X c tc)
    (hm : lastMarks [op, op'] [b, c] = false := by with_unfolding_all rfl) : ZPE TB X (.Compare a [op, op'] [b, c] pos) (zChain r r' ta tb tc) := by
  refine ⟨(pe_chain ho.ok ho'.ok ha.pe hb.pe hc.pe hm).conv fun σ H Q ⟨L, S, A, Kc, s, l, h, hQ⟩ => ?_⟩
  refine ⟨L, S, A, _, s, l, h, fun v1 H1 ⟨A1, S1, w1, ea1, eh1, s1, r1, h1⟩ => ?_⟩
  refine ⟨L, S1, A1, _, s1, l.mono ea1 eh1, h1, fun v2 H2 ⟨A2, S2, w2, ea2, eh2, s2, r2, h2⟩ => ?_⟩
  refine ⟨A2, S2, w1, w2, _, s2, r1.mono ea2 eh2, r2, h2, fun v3 H3 ⟨A3, S3, w3, ea3, eh3, s3, r3, h0⟩ => ?_⟩
  obtain ⟨k, e, h3⟩ := onBl_ex h0
  subst e
  cases r3
  refine ⟨k, rfl, ?_⟩
  have EA := (ea1.trans ea2).trans ea3
  have EH := (eh1.trans eh2).trans eh3
  cases k with
  | true =>
    rw [qIf_t] at h3
    rw [if_pos rfl]
    refine ⟨L, S3, A3, _, s3, l.mono EA EH, h3, fun v4 H4 ⟨A4, S4, w4, ea4, eh4, s4, r4, h4⟩ => ?_⟩
    exact ⟨A4, S4, w2, w4, Kc, s4, r2.mono (ea3.trans ea4) (eh3.trans eh4), r4, h4, fun v H' q => hQ v H' ((q.on ea4 eh4).on EA EH)⟩
  | false =>
    rw [qIf_f] at h3
    rw [if_neg Bool.false_ne_true]
    exact hQ _ _ ((Aft.here s3 (.bl false) h3).on EA EH)
theorem z_tchain {op op' : CmpOp} {r r' : Z2'} (ho : ZO2 TB X (compareOp op) r) (ho' : ZO2 TB X (compareOp op') r') (ha : ZPE TB X a ta) (hb : ZPE TB X b tb) (hc : ZPE TB X c tc)
    (hm : lastMarks [op, op'] [b, c] = false := by with_unfolding_all rfl) (he : ∀ whole, isTrue (.Compare a [op, op'] [b, c] pos) X.env whole = (do let v ← whole; standAt (Expr.Compare a [op, op'] [b, c] pos).pos; holding [v] (truthy v)) := by intro _; rfl) : ZPT TB X (.Compare a [op, op'] [b, c] pos) (zTru (zChain r r' ta tb tc)) :=
  z_truth (z_chain ho ho' ha hb hc hm) he

/-! ### subscripts, slices -/
@[irreducible] def qIx : Z2' := fun x y S K => Bx (match x, y with
  | .tup xs, .int i => ∃ w, atI xs i = some w ∧ K w S
  | .ref n, .int i => ∃ xs, IsLst S n xs ∧ ∃ w, atI xs i = some w ∧ K w S
  | .str z, .int i => ∃ c, z.length ≤ sizeLine ∧ atI z.cps.toList i = some c ∧ K (.str ⟨#[c]⟩) S
  | _, _ => False)
theorem Reps.atI {K : PySem.W.Frag} {A : List Addr} {H : Hp} {ws : List W} {vs : List V} {i : Int} {w : W} (h : Reps K A H ws vs) (e : atI ws i = some w) : ∃ v, L2.atI vs i = some v ∧ Rep K A H w v := by
  unfold L2.atI at e ⊢
  rw [← h.length]
  cases hx : ixN ws.length i with
  | none => rw [hx] at e; cases e
  | some j =>
    rw [hx] at e
    exact h.get e
theorem zi_any : IxR X (low2 X.K TB qIx) := by
  intro value slice pins s σ H x y v u Q I rx ry h hs
  obtain ⟨A, S, wx, wy, Kc, sk, r1, r2, h, hQ⟩ := h
  unfold qIx at h
  replace h := h.ok
  cases r1 with
  | tup h1 q1 =>
    cases r2 with
    | int i =>
      obtain ⟨w, e, k⟩ := h
      obtain ⟨v', e', r⟩ := q1.atI e
      exact ix_tup value slice pins s σ H _ _ v u Q I rx ry ⟨_, _, i, v', rfl, rfl, h1.sq, e', hQ _ _ (.here sk r k)⟩ hs
    | _ => exact False.elim h
  | ref h1 =>
    cases r2 with
    | int i =>
      obtain ⟨xs, hl, w, e, k⟩ := h
      obtain ⟨vs, hq, q1⟩ := sk.seq h1 hl
      obtain ⟨v', e', r⟩ := q1.atI e
      exact ix_list value slice pins s σ H _ _ v u Q I rx ry ⟨_, _, i, v', rfl, rfl, hq, e', hQ _ _ (.here sk r k)⟩ hs
    | _ => exact False.elim h
  | str z =>
    cases r2 with
    | int i =>
      obtain ⟨c, hz, e, k⟩ := h
      exact ix_str value slice pins s σ H _ _ v u Q I rx ry ⟨z, i, c, rfl, rfl, hz, e, hQ _ _ (.here sk (.str _) k)⟩ hs
    | _ => exact False.elim h
  | _ => exact False.elim h
/-- a slice's part -/
abbrev ZO := Loc' → Store → (Option Int → Store → Prop) → Prop
def lowO (K : PySem.W.Frag) (TB : List Addr) (t : ZO) : TO := fun σ H Q => ∃ L S A Kc, SOk K TB A S H ∧ LOk K A H L σ ∧ t L S Kc ∧ ∀ v H' A' S', AExt A A' → HExt H H' → SOk K TB A' S' H' → Kc v S' → Q v H'
structure ZPO (TB : List Addr) (X : Cx) (e : Option Expr) (t : ZO) : Prop where
  po : PO X e (lowO X.K TB t)
def zNoPart : ZO := fun _ S K => K none S
def zPart (t : ZE) : ZO := fun L S K => t L S fun x S1 => onInt (fun i => K (some i) S1) x
theorem PO.conv {oe : Option Expr} {T T' : TO} (h : PO X oe T) (c : ∀ σ H Q, T' σ H Q → T σ H Q) : PO X oe T' := ⟨fun pins s σ H Q I q => h.run pins s σ H Q I (c σ H Q q)⟩
theorem zpo_none : ZPO TB X none zNoPart := ⟨PO.conv po_none fun σ H Q ⟨L, S, A, Kc, s, l, h, hQ⟩ => hQ _ _ A S (.refl _) (.refl _) s h⟩
theorem zpo_some (h : ZPE TB X e te) : ZPO TB X (some e) (zPart te) := ⟨PO.conv (po_some h.pe) fun σ H Q ⟨L, S, A, Kc, s, l, h, hQ⟩ =>
  ⟨L, S, A, _, s, l, h, fun v1 H1 ⟨A1, S1, w1, ea1, eh1, s1, r1, h0⟩ => by obtain ⟨i, e, h1⟩ := onInt_ex h0; subst e; cases r1; exact ⟨i, rfl, hQ _ _ A1 S1 ea1 eh1 s1 h1⟩⟩⟩
/-- xs[lo:hi] -/
def cut {α : Type} (xs : List α) (lo hi : Option Int) : List α := (xs.drop (HT.sIx xs.length 0 lo)).take (HT.sIx xs.length xs.length hi - HT.sIx xs.length 0 lo)
theorem Reps.cut {K : PySem.W.Frag} {A : List Addr} {H : Hp} {ws : List W} {vs : List V} (h : Reps K A H ws vs) (lo hi : Option Int) : Reps K A H (Z.cut ws lo hi) (cutV vs lo hi) := by
  unfold Z.cut cutV
  rw [h.length]
  exact (h.drop _).take _
@[irreducible] def qSl : W → Option Int → Option Int → Store → WK → Prop := fun x lo hi S K => Bx (match x with
  | .tup xs => K (.tup (cut xs lo hi)) S
  | .ref n => ∃ xs, IsLst S n xs ∧ K (.ref S.length) (S ++ [.lst (cut xs lo hi)])
  | _ => False)
def zSl (te : ZE) (tl th : ZO) : ZE := fun L S K => te L S fun x S1 => tl L S1 fun l S2 => th L S2 fun u S3 => qSl x l u S3 K
def lowSl (K : PySem.W.Frag) (TB : List Addr) : V → Option Int → Option Int → Hp → VK → Prop := fun x lo hi H Q => ∃ A S wx Kc, SOk K TB A S H ∧ Rep K A H wx x ∧ qSl wx lo hi S Kc ∧ ∀ v H', Aft K TB A H Kc v H' → Q v H'
theorem zsl_any : SlR X (lowSl X.K TB) := by
  intro pins s σ H x v vl vu lo hi sl Q I rx hs pl pu h
  obtain ⟨A, S, wx, Kc, sk, r1, h, hQ⟩ := h
  unfold qSl at h
  replace h := h.ok
  cases r1 with
  | @tup a xs vs h1 q1 =>
    refine sl_tupA pins s σ H _ v vl vu lo hi sl Q I rx hs pl pu ⟨_, _, rfl, h1.sq, fun ⟨e1, e2⟩ => hQ _ _ ?_, fun _ p hp => hQ _ _ (.tup sk (q1.cut lo hi) hp h)⟩
    have hc : cut xs lo hi = xs := by
      unfold cut
      rw [q1.length, e1, e2]
      simp [← q1.length]
    have h' : Kc (.tup (cut xs lo hi)) S := h
    rw [hc] at h'
    exact .here sk (.tup h1 q1) h'
  | ref h1 =>
    obtain ⟨xs, hl, k⟩ := h
    obtain ⟨vs, hq, q1⟩ := sk.seq h1 hl
    exact sl_list pins s σ H _ v vl vu lo hi sl Q I rx hs pl pu ⟨_, _, rfl, hq, fun p hp => hQ _ _ (.lst sk (q1.cut lo hi) hp k)⟩
  | _ => exact False.elim h
theorem z_sl {lo hi : Option Expr} {tl th : ZO} {p2 : Pos} (he : ZPE TB X e te) (hl : ZPO TB X lo tl) (hu : ZPO TB X hi th) : ZPE TB X (.Subscript e (.Slice lo hi none p2) pos) (zSl te tl th) :=
  ⟨(pe_slice zsl_any he.pe hl.po hu.po).conv fun σ H Q ⟨L, S, A, Kc, s, l, h, hQ⟩ => ⟨L, S, A, _, s, l, h, fun v1 H1 ⟨A1, S1, w1, ea1, eh1, s1, r1, h1⟩ =>
    ⟨L, S1, A1, _, s1, l.mono ea1 eh1, h1, fun o H2 A2 S2 ea2 eh2 s2 h2 => ⟨L, S2, A2, _, s2, l.mono (ea1.trans ea2) (eh1.trans eh2), h2, fun o' H3 A3 S3 ea3 eh3 s3 h3 =>
      ⟨A3, S3, w1, Kc, s3, r1.mono (ea2.trans ea3) (eh2.trans eh3), h3, fun v H' q => hQ v H' (((q.on ea3 eh3).on ea2 eh2).on ea1 eh1)⟩⟩⟩⟩⟩

/-! ### argument lists, displays -/
def zNil : ZA := fun _ S K => K [] S
def zCons (ta : ZE) (tr : ZA) : ZA := fun L S K => ta L S fun x S1 => tr L S1 fun xs S2 => K (x :: xs) S2
theorem zpa_nil : ZPA TB X [] zNil := ⟨pa_nil.conv fun σ H Q ⟨L, S, A, Kc, s, l, h, hQ⟩ => hQ _ _ ⟨A, S, [], .refl _, .refl _, s, .nil, h⟩⟩
theorem zpa_cons {tr : ZA} (ha : ZPE TB X e te) (hr : ZPA TB X es tr) (hs : starEach (e :: es) X.env = (false, eval e X.env) :: starEach es X.env := by rfl) : ZPA TB X (e :: es) (zCons te tr) :=
  ⟨(pa_cons ha.pe hr.pa hs).conv fun σ H Q ⟨L, S, A, Kc, s, l, h, hQ⟩ => ⟨L, S, A, _, s, l, h, fun v1 H1 ⟨A1, S1, w1, ea1, eh1, s1, r1, h1⟩ =>
    ⟨L, S1, A1, _, s1, l.mono ea1 eh1, h1, fun vs H2 ⟨A2, S2, ws, ea2, eh2, s2, r2, h2⟩ => hQ _ _ ⟨A2, S2, w1 :: ws, ea1.trans ea2, eh1.trans eh2, s2, .cons (r1.mono ea2 eh2) r2, h2⟩⟩⟩⟩
def zTup (t : ZA) : ZE := fun L S K => t L S fun xs S1 => xs.length ≤ sizeLine ∧ K (.tup xs) S1
def zLst (t : ZA) : ZE := fun L S K => t L S fun xs S1 => xs.length ≤ sizeLine ∧ K (.ref S1.length) (S1 ++ [.lst xs])
theorem z_tup {x1} {t : ZA} (h : ZPA TB X es t) : ZPE TB X (.Tuple es x1 pos) (zTup t) :=
  ⟨(pe_tup h.pa).conv fun σ H Q ⟨L, S, A, Kc, s, l, h, hQ⟩ => ⟨L, S, A, _, s, l, h, fun vs H1 ⟨A1, S1, ws, ea1, eh1, s1, r1, hz, h1⟩ =>
    ⟨by rw [← r1.length]; exact hz, fun p hp => hQ _ _ ((Aft.tup s1 r1 hp h1).on ea1 eh1)⟩⟩⟩
theorem z_lst {t : ZA} (h : ZPA TB X es t) : ZPE TB X (.List es pos) (zLst t) :=
  ⟨(pe_lst h.pa).conv fun σ H Q ⟨L, S, A, Kc, s, l, h, hQ⟩ => ⟨L, S, A, _, s, l, h, fun vs H1 ⟨A1, S1, ws, ea1, eh1, s1, r1, hz, h1⟩ =>
    ⟨by rw [← r1.length]; exact hz, fun p hp => hQ _ _ ((Aft.lst s1 r1 hp h1).on ea1 eh1)⟩⟩⟩

/-! ### and, or, not, if -/
variable {rest : List Expr}
def zAnd (t u : ZT) : ZT := fun L S K => t L S fun c S1 => qIf c (u L S1 K) (K false S1)
def zOr (t u : ZT) : ZT := fun L S K => t L S fun c S1 => qIf c (K true S1) (u L S1 K)
def zNot (t : ZT) : ZT := fun L S K => t L S fun c S1 => K (!c) S1
theorem zw_and1 (ha : ZPT TB X a t) : ZPW TB X (.BoolOp .And [a] pos) t := ⟨pw_and1 ha.pt⟩
theorem zw_or1 (ha : ZPT TB X a t) : ZPW TB X (.BoolOp .Or [a] pos) t := ⟨pw_or1 ha.pt⟩
theorem zw_and (ha : ZPT TB X a t) (hb : ZPW TB X (.BoolOp .And (b :: rest) pos) u) : ZPW TB X (.BoolOp .And (a :: b :: rest) pos) (zAnd t u) :=
  ⟨(pw_and ha.pt hb.pw).conv fun σ H Q ⟨L, S, A, Kc, s, l, h, hQ⟩ => ⟨L, S, A, _, s, l, h, fun k H1 ⟨A1, S1, ea1, eh1, s1, h1⟩ => by
    cases k with
    | true =>
      rw [qIf_t] at h1
      rw [if_pos rfl]
      exact ⟨L, S1, A1, Kc, s1, l.mono ea1 eh1, h1, fun v H' q => hQ v H' (q.on ea1 eh1)⟩
    | false =>
      rw [qIf_f] at h1
      rw [if_neg Bool.false_ne_true]
      exact hQ _ _ ⟨A1, S1, ea1, eh1, s1, h1⟩⟩⟩
theorem zw_or (ha : ZPT TB X a t) (hb : ZPW TB X (.BoolOp .Or (b :: rest) pos) u) : ZPW TB X (.BoolOp .Or (a :: b :: rest) pos) (zOr t u) :=
  ⟨(pw_or ha.pt hb.pw).conv fun σ H Q ⟨L, S, A, Kc, s, l, h, hQ⟩ => ⟨L, S, A, _, s, l, h, fun k H1 ⟨A1, S1, ea1, eh1, s1, h1⟩ => by
    cases k with
    | false =>
      rw [qIf_f] at h1
      rw [if_neg Bool.false_ne_true]
      exact ⟨L, S1, A1, Kc, s1, l.mono ea1 eh1, h1, fun v H' q => hQ v H' (q.on ea1 eh1)⟩
    | true =>
      rw [qIf_t] at h1
      rw [if_pos rfl]
      exact hQ _ _ ⟨A1, S1, ea1, eh1, s1, h1⟩⟩⟩
theorem ZPW.zt (h : ZPW TB X a t) : ZPT TB X a t := ⟨h.pw.pt⟩
theorem z_tnot (ha : ZPT TB X a t) : ZPT TB X (.UnaryOp .Not a pos) (zNot t) :=
  ⟨(pt_not ha.pt).conv fun σ H Q ⟨L, S, A, Kc, s, l, h, hQ⟩ => ⟨L, S, A, _, s, l, h, fun k H1 ⟨A1, S1, ea1, eh1, s1, h1⟩ => hQ _ _ ⟨A1, S1, ea1, eh1, s1, h1⟩⟩⟩
def zNotV (ta : ZE) : ZE := fun L S K => ta L S fun x S1 => onSome (x.truth S1) fun k => K (.bl (!k)) S1
theorem z_not (ha : ZPE TB X a ta) : ZPE TB X (.UnaryOp .Not a pos) (zNotV ta) :=
  ⟨(pe_notT ha.pe).conv fun σ H Q ⟨L, S, A, Kc, s, l, h, hQ⟩ => ⟨L, S, A, _, s, l, h, fun v1 H1 ⟨A1, S1, w1, ea1, eh1, s1, r1, h0⟩ => let ⟨k, e, h1⟩ := onSome_ex h0; ⟨k, tru_of s1 r1 e, hQ _ _ ((Aft.here s1 (.bl _) h1).on ea1 eh1)⟩⟩⟩
def zAndV (ta tb : ZE) : ZE := fun L S K => ta L S fun x S1 => onSome (x.truth S1) fun k => qIf k (tb L S1 K) (K x S1)
def zOrV (ta tb : ZE) : ZE := fun L S K => ta L S fun x S1 => onSome (x.truth S1) fun k => qIf k (K x S1) (tb L S1 K)
theorem z_one {op} (h : ZPE TB X a ta) : ZPE TB X (.BoolOp op [a] pos) ta := ⟨pe_one h.pe⟩
theorem z_and (ha : ZPE TB X a ta) (hb : ZPE TB X (.BoolOp .And (b :: rest) pos) tb) : ZPE TB X (.BoolOp .And (a :: b :: rest) pos) (zAndV ta tb) :=
  ⟨(pe_andT ha.pe hb.pe).conv fun σ H Q ⟨L, S, A, Kc, s, l, h, hQ⟩ => ⟨L, S, A, _, s, l, h, fun v1 H1 ⟨A1, S1, w1, ea1, eh1, s1, r1, h0⟩ => let ⟨k, e, h1⟩ := onSome_ex h0; ⟨k, tru_of s1 r1 e, by
    cases k with
    | true =>
      rw [qIf_t] at h1
      rw [if_pos rfl]
      exact ⟨L, S1, A1, Kc, s1, l.mono ea1 eh1, h1, fun v H' q => hQ v H' (q.on ea1 eh1)⟩
    | false =>
      rw [qIf_f] at h1
      rw [if_neg Bool.false_ne_true]
      exact hQ _ _ ((Aft.here s1 r1 h1).on ea1 eh1)⟩⟩⟩
theorem z_or (ha : ZPE TB X a ta) (hb : ZPE TB X (.BoolOp .Or (b :: rest) pos) tb) : ZPE TB X (.BoolOp .Or (a :: b :: rest) pos) (zOrV ta tb) :=
  ⟨(pe_orT ha.pe hb.pe).conv fun σ H Q ⟨L, S, A, Kc, s, l, h, hQ⟩ => ⟨L, S, A, _, s, l, h, fun v1 H1 ⟨A1, S1, w1, ea1, eh1, s1, r1, h0⟩ => let ⟨k, e, h1⟩ := onSome_ex h0; ⟨k, tru_of s1 r1 e, by
    cases k with
    | false =>
      rw [qIf_f] at h1
      rw [if_neg Bool.false_ne_true]
      exact ⟨L, S1, A1, Kc, s1, l.mono ea1 eh1, h1, fun v H' q => hQ v H' (q.on ea1 eh1)⟩
    | true =>
      rw [qIf_t] at h1
      rw [if_pos rfl]
      exact hQ _ _ ((Aft.here s1 r1 h1).on ea1 eh1)⟩⟩⟩
def zIf (t : ZT) (ta tb : ZE) : ZE := fun L S K => t L S fun c S1 => qIf c (ta L S1 K) (tb L S1 K)
theorem z_if (hc : ZPT TB X c t) (ha : ZPE TB X a ta) (hb : ZPE TB X b tb) : ZPE TB X (.IfExp c a b pos) (zIf t ta tb) :=
  ⟨(pe_ifExp hc.pt ha.pe hb.pe).conv fun σ H Q ⟨L, S, A, Kc, s, l, h, hQ⟩ => ⟨L, S, A, _, s, l, h, fun k H1 ⟨A1, S1, ea1, eh1, s1, h1⟩ => by
    cases k with
    | true =>
      rw [qIf_t] at h1
      rw [if_pos rfl]
      exact ⟨L, S1, A1, Kc, s1, l.mono ea1 eh1, h1, fun v H' q => hQ v H' (q.on ea1 eh1)⟩
    | false =>
      rw [qIf_f] at h1
      rw [if_neg Bool.false_ne_true]
      exact ⟨L, S1, A1, Kc, s1, l.mono ea1 eh1, h1, fun v H' q => hQ v H' (q.on ea1 eh1)⟩⟩⟩
end
end Z

set_option maxHeartbeats 2000000
/-! Z5: calls, statements, targets. -/
namespace Z
open PySem PySem.Spec PyProof.Rows L2
section
variable {X : Cx} {TB : List Addr} {a b c e o : Expr} {es : List Expr} {ta tb tc te to : ZE} {ts : ZA} {t u : ZT} {pos p apos : Pos} {x : Str} {id T : String}
def zCall (r : ZC) (ts : ZA) : ZE := fun L S K => ts L S fun ws S1 => r ws S1 K
theorem low_call {K : PySem.W.Frag} {r : ZC} {σ : L2.St} {H : Hp} {Q : VK} (h : low K TB (zCall r ts) σ H Q) : tCB (lowC K TB r) (lowA K TB ts) σ H Q := by
  obtain ⟨L, S, A, Kc, s, l, h, hQ⟩ := h
  exact ⟨L, S, A, _, s, l, h, fun vs H1 ⟨A1, S1, ws, ea1, eh1, s1, r1, h1⟩ => ⟨A1, S1, ws, Kc, s1, r1, h1, fun v H' q => hQ v H' (q.on ea1 eh1)⟩⟩
theorem z_callB {r : ZC} (hc : ZOC TB X (.builtin id) r) (hg : Gl X x) (hm : X.mg x = none) (hv : bootBuiltins x = some (.builtin id)) (ha : ZPA TB X (e :: es) ts) (hn : x ≠ "__name__" := by decide) (hdb : (x == ("__debug__" : Str)) = false := by decide)
    (he : starEach (e :: es) X.env = (false, eval e X.env) :: starEach es X.env := by rfl) (hpl : (backTo pos (starEach es X.env)).any (·.1) = false := by rfl) : ZPE TB X (.Call (.Name x p) (e :: es) [] pos) (zCall r ts) :=
  ⟨(pe_callB hc.ok hg hm hv ha.pa hn hdb he hpl).conv fun σ H Q h => low_call h⟩
theorem z_callTy {r : ZC} (hc : ZOC TB X (.type T) r) (hg : Gl X x) (hm : X.mg x = none) (hv : bootBuiltins x = some (.type T)) (ha : ZPA TB X (e :: es) ts) (hn : x ≠ "__name__" := by decide) (hdb : (x == ("__debug__" : Str)) = false := by decide)
    (he : starEach (e :: es) X.env = (false, eval e X.env) :: starEach es X.env := by rfl) (hpl : (backTo pos (starEach es X.env)).any (·.1) = false := by rfl) : ZPE TB X (.Call (.Name x p) (e :: es) [] pos) (zCall r ts) :=
  ⟨(pe_callTy hc.ok hg hm hv ha.pa hn hdb he hpl).conv fun σ H Q h => low_call h⟩

/-! ### len, int, abs, max, min, isinstance, tuple, list, str -/
@[irreducible] def qLen : ZC := fun ws S K => Bx (match ws with
  | [.tup xs] => K (.int xs.length) S
  | [.str z] => z.length ≤ sizeLine ∧ K (.int z.length) S
  | [.ref n] => (∃ xs, IsLst S n xs ∧ K (.int xs.length) S)
  | _ => False)
theorem zc_len : ZOC TB X (.builtin "len") qLen := by
  refine ⟨fun pins s σ H xs us Q I rv h => ?_⟩
  obtain ⟨A, S, ws, Kc, sk, r, h, hQ⟩ := h
  unfold qLen at h
  replace h := h.ok
  cases r with
  | nil => exact h.elim
  | cons r rr =>
    cases rr with
    | cons _ _ => cases r <;> exact h.elim
    | nil =>
      cases r with
      | tup h1 q1 => exact call_len_seq pins s σ H _ us Q I rv ⟨_, _, rfl, .inr h1.sq, by rw [← q1.length]; exact hQ _ _ (.here sk (.int _) h)⟩
      | str z => exact call_len_str pins s σ H _ us Q I rv ⟨z, rfl, h.1, hQ _ _ (.here sk (.int _) h.2)⟩
      | ref h1 =>
        obtain ⟨ys, e1, k⟩ := h
        obtain ⟨vs, hq, q1⟩ := sk.seq h1 e1
        exact call_len_seq pins s σ H _ us Q I rv ⟨_, _, rfl, .inl hq, by rw [← q1.length]; exact hQ _ _ (.here sk (.int _) k)⟩
      | _ => exact h.elim
def qInt : ZC := fun ws S K => match ws with
  | [.int i] => K (.int i) S
  | [.bl b] => K (.int (if b then 1 else 0)) S
  | _ => False
theorem zc_int : ZOC TB X (.type "int") qInt := by
  refine ⟨fun pins s σ H xs us Q I rv h => ?_⟩
  obtain ⟨A, S, ws, Kc, sk, r, h, hQ⟩ := h
  cases r with
  | nil => exact h.elim
  | cons r rr =>
    cases rr with
    | cons _ _ => cases r <;> exact h.elim
    | nil =>
      cases r with
      | int i => exact call_int1 pins s σ H _ us Q I rv (.inl ⟨_, rfl, hQ _ _ (.here sk (.int _) h)⟩)
      | bl i => exact call_int1 pins s σ H _ us Q I rv (.inr ⟨_, rfl, hQ _ _ (.here sk (.int _) h)⟩)
      | _ => exact h.elim
def qAbs : ZC := fun ws S K => match ws with
  | [.int i] => K (.int (if i < 0 then -i else i)) S
  | _ => False
theorem zc_abs : ZOC TB X (.builtin "abs") qAbs := by
  refine ⟨fun pins s σ H xs us Q I rv h => ?_⟩
  obtain ⟨A, S, ws, Kc, sk, r, h, hQ⟩ := h
  cases r with
  | nil => exact h.elim
  | cons r rr =>
    cases rr with
    | cons _ _ => cases r <;> exact h.elim
    | nil =>
      cases r with
      | int i => exact call_abs pins s σ H _ us Q I rv ⟨_, rfl, hQ _ _ (.here sk (.int _) h)⟩
      | _ => exact h.elim
def qMax2 : ZC := fun ws S K => match ws with
  | [.int i, .int j] => K (.int (if j > i then j else i)) S
  | _ => False
def qMin2 : ZC := fun ws S K => match ws with
  | [.int i, .int j] => K (.int (if j < i then j else i)) S
  | _ => False
theorem zc_max2 (hc : X.calm = true) : ZOC TB X (.builtin "max") qMax2 := by
  refine ⟨fun pins s σ H xs us Q I rv h => ?_⟩
  obtain ⟨A, S, ws, Kc, sk, r, h, hQ⟩ := h
  unfold qMax2 at h
  split at h
  · cases r with
    | cons r1 r =>
      cases r with
      | cons r2 r =>
        cases r1
        cases r2
        cases r
        exact call_max2 hc pins s σ H _ us Q I rv ⟨_, _, rfl, hQ _ _ (.here sk (.int _) h)⟩
  · exact h.elim
theorem zc_min2 (hc : X.calm = true) : ZOC TB X (.builtin "min") qMin2 := by
  refine ⟨fun pins s σ H xs us Q I rv h => ?_⟩
  obtain ⟨A, S, ws, Kc, sk, r, h, hQ⟩ := h
  unfold qMin2 at h
  split at h
  · cases r with
    | cons r1 r =>
      cases r with
      | cons r2 r =>
        cases r1
        cases r2
        cases r
        exact call_min2 hc pins s σ H _ us Q I rv ⟨_, _, rfl, hQ _ _ (.here sk (.int _) h)⟩
  · exact h.elim
/-- the name of a value's type -/
def W.tyName (S : Store) : W → Option String
  | .non => some "NoneType"
  | .bl _ => some "bool"
  | .int _ => some "int"
  | .str _ => some "str"
  | .tup _ => some "tuple"
  | .ref n => match S[n]? with
    | some (.lst _) => some "list"
    | some (.frz _) => some "list"
    | some (.dic _) => some "dict"
    | none => none
  | .ty _ => none
@[irreducible] def qIsi : ZC := fun ws S K => Bx (match ws with
  | [x, .ty T] => ∃ n b, x.tyName S = some n ∧ kitB n T = some b ∧ K (.bl b) S
  | _ => False)
theorem zc_isi : ZOC TB X (.builtin "isinstance") qIsi := by
  refine ⟨fun pins s σ H xs us Q I rv h => ?_⟩
  obtain ⟨A, S, ws, Kc, sk, r, h, hQ⟩ := h
  unfold qIsi at h
  replace h := h.ok
  split at h
  · rename_i wx T
    obtain ⟨n, b, e1, e2, k⟩ := h
    cases r with
    | cons r1 r =>
      cases r with
      | cons r2 r =>
        cases r2
        cases r
        have key : ∀ (v : V), Rep X.K A H wx v → TyX X.K H v (.type n) := by
          intro v r1
          cases r1 with
          | non => cases e1; exact .base .non
          | bl _ => cases e1; exact .base (.bl _)
          | int _ => cases e1; exact .base (.int _)
          | str _ => cases e1; exact .base (.str _)
          | tup h1 _ =>
            cases e1
            rcases h1 with h1 | ⟨o, _, _, h1, h2, _⟩
            · exact .base (.tup h1)
            · exact .kTuple h1 h2
          | @ref a n' h1 =>
            cases hc : S[n']? with
            | none => simp [W.tyName, hc] at e1
            | some o =>
              cases o with
              | lst xs =>
                simp only [W.tyName, hc, Option.some.injEq] at e1
                subst e1
                obtain ⟨vs, e, _⟩ := sk.cell n' a _ h1 hc
                exact .base (.lst e)
              | frz xs =>
                simp only [W.tyName, hc, Option.some.injEq] at e1
                subst e1
                obtain ⟨vs, e, _⟩ := sk.cell n' a _ h1 hc
                rcases e with ⟨o, e⟩ | ⟨o, _, _, e, h2, _⟩
                · exact .base (.frz e)
                · exact .kList e h2
              | dic xs =>
                simp only [W.tyName, hc, Option.some.injEq] at e1
                subst e1
                obtain ⟨vs, e, _⟩ := sk.cell n' a _ h1 hc
                exact .base (.dK e)
          | ty _ => cases e1
        exact call_isi pins s σ H _ us Q I rv ⟨_, _, _, _, b, rfl, .ty _, key _ r1, kit_ty e2, hQ _ _ (.here sk (.bl _) k)⟩
  · exact h.elim
@[irreducible] def qTup : ZC := fun ws S K => Bx (match ws with
  | [.tup xs] => K (.tup xs) S
  | [.ref n] => ∃ xs, IsLst S n xs ∧ K (.tup xs) S
  | _ => False)
theorem zc_tup : ZOC TB X (.type "tuple") qTup := by
  refine ⟨fun pins s σ H xs us Q I rv h => ?_⟩
  obtain ⟨A, S, ws, Kc, sk, r, h, hQ⟩ := h
  unfold qTup at h
  replace h := h.ok
  cases r with
  | nil => exact h.elim
  | cons r rr =>
    cases rr with
    | cons _ _ => cases r <;> exact h.elim
    | nil =>
      cases r with
      | tup h1 q1 => exact call_tuple_of pins s σ H _ us Q I rv ⟨_, _, rfl, .inr ⟨h1.sq, hQ _ _ (.here sk (.tup h1 q1) h)⟩⟩
      | ref h1 =>
        obtain ⟨ys, e1, k⟩ := h
        obtain ⟨vs, hq, q1⟩ := sk.seq h1 e1
        exact call_tuple_of pins s σ H _ us Q I rv ⟨_, _, rfl, .inl ⟨hq, fun l hl => hQ _ _ (.tup sk q1 hl k)⟩⟩
      | _ => exact h.elim
@[irreducible] def qList : ZC := fun ws S K => Bx (match ws with
  | [.tup xs] => K (.ref S.length) (S ++ [.lst xs])
  | [.ref n] => ∃ xs, IsLst S n xs ∧ K (.ref S.length) (S ++ [.lst xs])
  | _ => False)
theorem zc_list : ZOC TB X (.type "list") qList := by
  refine ⟨fun pins s σ H xs us Q I rv h => ?_⟩
  obtain ⟨A, S, ws, Kc, sk, r, h, hQ⟩ := h
  unfold qList at h
  replace h := h.ok
  cases r with
  | nil => exact h.elim
  | cons r rr =>
    cases rr with
    | cons _ _ => cases r <;> exact h.elim
    | nil =>
      cases r with
      | tup h1 q1 => exact call_list_of pins s σ H _ us Q I rv ⟨_, _, rfl, .inr h1.sq, fun l hl => hQ _ _ (.lst sk q1 hl h)⟩
      | ref h1 =>
        obtain ⟨ys, e1, k⟩ := h
        obtain ⟨vs, hq, q1⟩ := sk.seq h1 e1
        exact call_list_of pins s σ H _ us Q I rv ⟨_, _, rfl, .inl hq, fun l hl => hQ _ _ (.lst sk q1 hl k)⟩
      | _ => exact h.elim
@[irreducible] def qStr : ZC := fun ws S K => Bx (match ws with
  | [.int i] => i.natAbs.log2 < 1920 ∧ K (.str (toString i)) S
  | _ => False)
theorem zc_str : ZOC TB X (.type "str") qStr := by
  refine ⟨fun pins s σ H xs us Q I rv h => ?_⟩
  obtain ⟨A, S, ws, Kc, sk, r, h, hQ⟩ := h
  unfold qStr at h
  replace h := h.ok
  cases r with
  | nil => exact h.elim
  | cons r rr =>
    cases rr with
    | cons _ _ => cases r <;> exact h.elim
    | nil =>
      cases r with
      | int i => exact call_str_int pins s σ H _ us Q I rv ⟨_, rfl, h.1, hQ _ _ (.here sk (.str _) h.2)⟩
      | _ => exact h.elim

/-! ### methods of lists -/
abbrev ZM := W → List W → Store → WK → Prop
def lowM (K : PySem.W.Frag) (TB : List Addr) (r : ZM) : V → List V → Hp → VK → Prop := fun x xs H Q => ∃ A S wx ws Kc, SOk K TB A S H ∧ Rep K A H wx x ∧ Reps K A H ws xs ∧ r wx ws S Kc ∧ ∀ v H', Aft K TB A H Kc v H' → Q v H'
structure ZOM (TB : List Addr) (X : Cx) (id : String) (r : ZM) : Prop where
  ok : MtR X id (lowM X.K TB r)
/-- the receiver is a list -/
def onLst (x : W) (S1 : Store) (P : Prop) : Prop := (∃ n xs, x = .ref n ∧ IsLst S1 n xs) ∧ P
def zMl (r : ZM) (to : ZE) (ts : ZA) : ZE := fun L S K => to L S fun x S1 => onLst x S1 (ts L S1 fun ws S2 => r x ws S2 K)
theorem z_ml {name : Str} {r : ZM} (slot : Slot "list" name id) (hty : typeOf (.builtin id) = pure (.type "method_descriptor")) (hm : ZOM TB X id r) (ho : ZPE TB X o to) (ha : ZPA TB X (e :: es) ts)
    (hbase : attributeBase o name X.env (eval o X.env) = eval o X.env := by rfl)
    (hfew : ((backTo pos (starEach (e :: es) X.env)).all (fun x => !x.1) && (backToKw pos (keywordEach [] X.env)).all (fun x => x.1.isSome)
      && decide ((e :: es).length + ([] : List Keyword).length + (if ([] : List Keyword).isEmpty then 0 else 1) < 30)) = true := by rfl)
    (hline : (apos.endLine == pos.line) = true := by rfl) (hs : starEach (e :: es) X.env = (false, eval e X.env) :: starEach es X.env := by rfl) (hplain : (backTo pos (starEach es X.env)).any (·.1) = false := by rfl) :
    ZPE TB X (.Call (.Attribute o name apos) (e :: es) [] pos) (zMl r to ts) :=
  ⟨(pe_bm PySem.F.plainAttrs_list slot hty hm.ok ho.pe ha.pa hbase hfew hline hs hplain).conv fun σ H Q ⟨L, S, A, Kc, s, l, h, hQ⟩ => ⟨L, S, A, _, s, l, h, fun v1 H1 ⟨A1, S1, w1, ea1, eh1, s1, r1, ⟨n, xs, en, hn⟩, h1⟩ => by
    subst en
    cases r1 with
    | ref ha1 =>
      obtain ⟨vs, hq, _⟩ := s1.seq ha1 hn
      refine ⟨.inl ⟨rfl, vs, hq⟩, L, S1, A1, _, s1, l.mono ea1 eh1, h1, fun xs H2 ⟨A2, S2, ws, ea2, eh2, s2, r2, h2⟩ => ?_⟩
      exact ⟨A2, S2, .ref n, ws, Kc, s2, .ref (ea2 _ _ ha1), r2, h2, fun v H' q => hQ v H' ((q.on ea2 eh2).on ea1 eh1)⟩⟩⟩
theorem z_ml0 {name : Str} {r : ZM} (slot : Slot "list" name id) (hty : typeOf (.builtin id) = pure (.type "method_descriptor")) (hm : ZOM TB X id r) (ho : ZPE TB X o to)
    (hbase : attributeBase o name X.env (eval o X.env) = eval o X.env := by rfl) (hline : (apos.endLine == pos.line) = true := by rfl) :
    ZPE TB X (.Call (.Attribute o name apos) [] [] pos) (zMl r to zNil) :=
  ⟨(pe_bm0 PySem.F.plainAttrs_list slot hty hm.ok ho.pe hbase hline).conv fun σ H Q ⟨L, S, A, Kc, s, l, h, hQ⟩ => ⟨L, S, A, _, s, l, h, fun v1 H1 ⟨A1, S1, w1, ea1, eh1, s1, r1, ⟨n, xs, en, hn⟩, h1⟩ => by
    subst en
    cases r1 with
    | ref ha1 =>
      obtain ⟨vs, hq, _⟩ := s1.seq ha1 hn
      exact ⟨.inl ⟨rfl, vs, hq⟩, A1, S1, .ref n, [], Kc, s1, .ref ha1, .nil, h1, fun v H' q => hQ v H' (q.on ea1 eh1)⟩⟩⟩
@[irreducible] def qAppend : ZM := fun x ws S K => Bx (match x, ws with
  | .ref n, [w] => ∃ xs, S[n]? = some (.lst xs) ∧ xs.length < sizeLine ∧ K .non (S.set n (.lst (xs ++ [w])))
  | _, _ => False)
theorem zm_append : ZOM TB X "list.append" qAppend := by
  refine ⟨fun pins s σ H x xs v us Q I rx rv h => ?_⟩
  obtain ⟨A, S, wx, ws, Kc, sk, r1, r, h, hQ⟩ := h
  unfold qAppend at h
  replace h := h.ok
  split at h
  · obtain ⟨ys, e1, hz, k⟩ := h
    cases r1 with
    | ref h1 =>
      cases r with
      | cons r2 r =>
        cases r
        obtain ⟨vs, f, q⟩ := sk.lst h1 e1
        exact mt_append pins s σ H _ _ v us Q I rx rv ⟨_, _, _, rfl, rfl, f, by rw [← q.length]; exact hz, hQ _ _ (.set sk h1 e1 (q.append (.cons r2 .nil)) .non k)⟩
  · exact h.elim
/-- xs.pop(), xs.pop(i) -/
@[irreducible] def qPop : ZM := fun x ws S K => Bx (match x, ws with
  | .ref n, [] => ∃ xs y, S[n]? = some (.lst xs) ∧ xs[xs.length - 1]? = some y ∧ K y (S.set n (.lst xs.dropLast))
  | .ref n, [.int i] => ∃ xs k y, S[n]? = some (.lst xs) ∧ -(2 ^ 63) ≤ i ∧ i < 2 ^ 63 ∧ seqIndex? i xs.length = some k ∧ xs[k]? = some y ∧ K y (S.set n (.lst (xs.eraseIdx k)))
  | _, _ => False)
theorem Reps.dropLast {K : PySem.W.Frag} {A : List Addr} {H : Hp} {ws : List W} {vs : List V} (h : Reps K A H ws vs) : Reps K A H ws.dropLast vs.dropLast := by
  rw [List.dropLast_eq_take, List.dropLast_eq_take, h.length]
  exact h.take _
theorem zm_pop : ZOM TB X "list.pop" qPop := by
  refine ⟨fun pins s σ H x xs v us Q I rx rv h => ?_⟩
  obtain ⟨A, S, wx, ws, Kc, sk, r1, r, h, hQ⟩ := h
  unfold qPop at h
  replace h := h.ok
  split at h
  · obtain ⟨ys, y, e1, hz, k⟩ := h
    cases r1 with
    | ref h1 =>
      cases r
      obtain ⟨vs, f, q⟩ := sk.lst h1 e1
      obtain ⟨v', hv', rv'⟩ := q.get hz
      exact mt_pop pins s σ H _ _ v us Q I rx rv ⟨_, _, v', rfl, rfl, f, by rw [← q.length]; exact hv', hQ _ _ (.set sk h1 e1 q.dropLast rv' k)⟩
  · obtain ⟨ys, j, y, e1, b1, b2, b3, hz, k⟩ := h
    cases r1 with
    | ref h1 =>
      cases r with
      | cons r2 r =>
        cases r2
        cases r
        obtain ⟨vs, f, q⟩ := sk.lst h1 e1
        obtain ⟨v', hv', rv'⟩ := q.get hz
        exact mt_popAt pins s σ H _ _ v us Q I rx rv ⟨_, _, _, j, v', rfl, rfl, f, b1, b2, by rw [← q.length]; exact b3, hv', hQ _ _ (.set sk h1 e1 (q.eraseIdx j) rv' k)⟩
  · exact h.elim
@[irreducible] def qInsert : ZM := fun x ws S K => Bx (match x, ws with
  | .ref n, [.int i, w] => ∃ xs, S[n]? = some (.lst xs) ∧ xs.length < sizeLine ∧ 0 ≤ i ∧ i < 2 ^ 63 ∧ K .non (S.set n (.lst (xs.take i.toNat ++ [w] ++ xs.drop i.toNat)))
  | _, _ => False)
theorem zm_insert : ZOM TB X "list.insert" qInsert := by
  refine ⟨fun pins s σ H x xs v us Q I rx rv h => ?_⟩
  obtain ⟨A, S, wx, ws, Kc, sk, r1, r, h, hQ⟩ := h
  unfold qInsert at h
  replace h := h.ok
  split at h
  · obtain ⟨ys, e1, hz, b1, b2, k⟩ := h
    cases r1 with
    | ref h1 =>
      cases r with
      | cons r2 r =>
        cases r with
        | cons r3 r =>
          cases r2
          cases r
          obtain ⟨vs, f, q⟩ := sk.lst h1 e1
          exact mt_insert pins s σ H _ _ v us Q I rx rv ⟨_, _, _, _, rfl, rfl, f, by rw [← q.length]; exact hz, b1, b2, hQ _ _ (.set sk h1 e1 (((q.take _).append (.cons r3 .nil)).append (q.drop _)) .non k)⟩
  · exact h.elim
/-- xs.extend(ys), ys another list -/
@[irreducible] def qExtend : ZM := fun x ws S K => Bx (match x, ws with
  | .ref n, [.ref m] => ∃ xs ys, S[n]? = some (.lst xs) ∧ S[m]? = some (.lst ys) ∧ xs.length + ys.length ≤ sizeLine ∧ K .non (S.set n (.lst (xs ++ ys)))
  | _, _ => False)
theorem zm_extend : ZOM TB X "list.extend" qExtend := by
  refine ⟨fun pins s σ H x xs v us Q I rx rv h => ?_⟩
  obtain ⟨A, S, wx, ws, Kc, sk, r1, r, h, hQ⟩ := h
  unfold qExtend at h
  replace h := h.ok
  split at h
  · obtain ⟨ys, zs, e1, e2, hz, k⟩ := h
    cases r1 with
    | ref h1 =>
      cases r with
      | cons r2 r =>
        cases r2 with
        | ref h2 =>
          cases r
          obtain ⟨vs, f, q⟩ := sk.lst h1 e1
          obtain ⟨vs2, f2, q2⟩ := sk.lst h2 e2
          exact mt_extend pins s σ H _ _ v us Q I rx rv ⟨_, _, _, _, rfl, rfl, f, f2, by rw [← q.length, ← q2.length]; exact hz, hQ _ _ (.set sk h1 e1 (q.append q2) .non k)⟩
  · exact h.elim
/-- xs.index(y): the first place of an equal one -/
@[irreducible] def qIndex : ZM := fun x ws S K => Bx (match x, ws with
  | .ref n, [y] => ∃ d ds j z, DataOf S (.ref n) (.list ds) ∧ DataOf S y d ∧ SeqAt.shaped (.list ds) = true ∧ SeqAt.shaped d = true ∧ ds[j]? = some z ∧ PyData.eqv z d = true ∧
      (∀ (m : Nat) (z' : PyData), m < j → ds[m]? = some z' → PyData.eqv z' d = false) ∧ K (.int (j : Nat)) S
  | _, _ => False)
theorem zm_index (hu : X.A.units + 65 < cLine) : ZOM TB X "list.index" qIndex := by
  refine ⟨fun pins s σ H x xs v us Q I rx rv h => ?_⟩
  obtain ⟨A, S, wx, ws, Kc, sk, r1, r, h, hQ⟩ := h
  unfold qIndex at h
  replace h := h.ok
  split at h
  · obtain ⟨d, ds, j, z, h1, h2, s1, s2, b1, b2, b3, k⟩ := h
    cases r1 with
    | ref ha =>
      cases r with
      | cons r2 r =>
        cases r
        exact mt_indexD hu pins s σ H _ _ v us Q I rx rv ⟨_, _, d, ds, j, z, rfl, rfl, h1.dp sk (.ref ha), h2.dp sk r2, s1, s2, b1, b2, b3, hQ _ _ (.here sk (.int _) k)⟩
  · exact h.elim

/-! ### calls of the text's own defs -/
/-- a def's promise over the store -/
def lowF (K : PySem.W.Frag) (TB : List Addr) (n : Nat) (sp : ZC) : Sp := fun vs H Q _ => vs.length = n ∧ lowC K TB sp vs H Q
abbrev ZFn (P : Program) (w : World) (K : PySem.W.Frag) (mg : Str → Option Value) (base : Heap) (TB : List Addr) (k : Nat) (f : Addr) (fd : FuncData) (ps : List Str) (sp : ZC) : Prop :=
  FnOk P w K mg base CX0 k f fd ps (lowF K TB ps.length sp)
def zCallF (n : Nat) (r : ZC) (ts : ZA) : ZE := fun L S K => ts L S fun ws S1 => qAr ws.length n (r ws S1 K)
theorem z_call {k : Nat} {f : Addr} {fd : FuncData} {ps : List Str} {sp : ZC} (F : ZFn X.prog X.w X.K X.mg X.base TB k f fd ps sp) (hr : Room k X.A) (hg : Gl X x) (hm : X.mg x = some (.ref f)) (hk : PySem.W.keepIn X.K (.ref f) = true) (hb : Binds X.K fd ps [])
    (ha : ZPA TB X (e :: es) ts) (hdb : (x == ("__debug__" : Str)) = false := by decide) (he : starEach (e :: es) X.env = (false, eval e X.env) :: starEach es X.env := by rfl) (hpl : (backTo pos (starEach es X.env)).any (·.1) = false := by rfl) :
    ZPE TB X (.Call (.Name x p) (e :: es) [] pos) (zCallF ps.length sp ts) :=
  ⟨(pe_call F hr hg hm hk hb .nil pass0 ha.pa hdb he hpl).conv fun σ H Q ⟨L, S, A, Kc, s, l, h, hQ⟩ => ⟨L, S, A, _, s, l, h, fun vs H1 ⟨A1, S1, ws, ea1, eh1, s1, r1, h0⟩ => by
    obtain ⟨hl, h1⟩ := qAr_ex h0
    show lowF X.K TB ps.length sp (vs ++ []) H1 Q E0
    rw [List.append_nil]
    exact ⟨by rw [← r1.length]; exact hl, A1, S1, ws, Kc, s1, r1, h1, fun v H' q => hQ v H' (q.on ea1 eh1)⟩⟩⟩
end

/-! ### statements -/
section
variable {K : PySem.W.Frag} {TB A A1 : List Addr} {H H1 : Hp}
theorem lowS_of {t : ZS} {D : Ends} {σ : L2.St} {L : Loc'} {S : Store} {ZD : ZEnds} (s : SOk K TB A S H) (l : LOk K A H L σ) (h : t ZD L S) (h1 : ∀ σ' H', AftS K TB A H ZD.nx σ' H' → D.nx σ' H') (h2 : ∀ v H', Aft K TB A H ZD.rt v H' → D.rt v H')
    (h3 : ∀ σ' H', AftS K TB A H ZD.bk σ' H' → D.bk σ' H') (h4 : ∀ σ' H', AftS K TB A H ZD.ct σ' H' → D.ct σ' H') : lowS K TB t D σ H := ⟨L, S, A, ZD, s, l, h, h1, h2, h3, h4⟩
end
section
variable {X : Cx} {TB : List Addr} {st : Stmt} {rest : List Stmt} {t u : ZS} {e : Expr} {te : ZE} {tt : ZT} {pos : Pos}
def zNext : ZS := fun D L S => D.nx L S
def zSeq (t u : ZS) : ZS := fun D L S => t { D with nx := u D } L S
theorem AftS.here {K : PySem.W.Frag} {TB A : List Addr} {H : Hp} {Kc : Loc' → Store → Prop} {σ : L2.St} {L : Loc'} {S : Store} (s : SOk K TB A S H) (l : LOk K A H L σ) (k : Kc L S) : AftS K TB A H Kc σ H := ⟨A, S, L, .refl _, .refl _, s, l, k⟩
theorem zs_nil : ZPSs TB X [] zNext := ⟨pss_nil.conv fun D σ H ⟨L, S, A, ZD, s, l, h, h1, _⟩ => h1 _ _ (.here s l h)⟩
theorem zs_cons (h1 : ZPS TB X st t) (h2 : ZPSs TB X rest u) : ZPSs TB X (st :: rest) (zSeq t u) :=
  ⟨(pss_cons h1.ps h2.ps).conv fun D σ H ⟨L, S, A, ZD, s, l, h, k1, k2, k3, k4⟩ => lowS_of s l h (fun σ' H' ⟨A1, S1, L1, ea, eh, s1, l1, q⟩ => lowS_of s1 l1 q (fun _ _ z => k1 _ _ (z.on ea eh)) (fun _ _ z => k2 _ _ (z.on ea eh)) (fun _ _ z => k3 _ _ (z.on ea eh)) (fun _ _ z => k4 _ _ (z.on ea eh))) k2 k3 k4⟩
theorem zs_one (h1 : ZPS TB X st t) : ZPSs TB X [st] t := ⟨pss_one h1.ps⟩
def zBreak : ZS := fun D L S => D.bk L S
def zCont : ZS := fun D L S => D.ct L S
theorem z_pass : ZPS TB X (.Pass pos) zNext := ⟨ps_pass.conv fun D σ H ⟨L, S, A, ZD, s, l, h, h1, _⟩ => h1 _ _ (.here s l h)⟩
theorem z_break : ZPS TB X (.Break pos) zBreak := ⟨ps_break.conv fun D σ H ⟨L, S, A, ZD, s, l, h, _, _, h1, _⟩ => h1 _ _ (.here s l h)⟩
theorem z_continue : ZPS TB X (.Continue pos) zCont := ⟨ps_continue.conv fun D σ H ⟨L, S, A, ZD, s, l, h, _, _, _, h1⟩ => h1 _ _ (.here s l h)⟩
theorem z_doc {x j pos pos'} : ZPS TB X (.Expr (.Constant (.str x) j pos) pos') zNext := ⟨ps_doc.conv fun D σ H ⟨L, S, A, ZD, s, l, h, h1, _⟩ => h1 _ _ (.here s l h)⟩
def zDrop (te : ZE) : ZS := fun D L S => te L S fun _ S1 => D.nx L S1
theorem z_expr (he : ZPE TB X e te) (hs : swapsWith e none pos.line X.env = pure false := by rfl) : ZPS TB X (.Expr e pos) (zDrop te) :=
  ⟨(ps_expr he.pe hs).conv fun D σ H ⟨L, S, A, ZD, s, l, h, h1, _⟩ => ⟨L, S, A, _, s, l, h, fun v H' ⟨A1, S1, w, ea, eh, s1, r, q⟩ => h1 _ _ ⟨A1, S1, L, ea, eh, s1, l.mono ea eh, q⟩⟩⟩
def zRet (te : ZE) : ZS := fun D L S => te L S D.rt
theorem z_ret (he : ZPE TB X e te) : ZPS TB X (.Return (some e) pos) (zRet te) := ⟨(ps_ret he.pe).conv fun D σ H ⟨L, S, A, ZD, s, l, h, _, h1, _⟩ => ⟨L, S, A, _, s, l, h, h1⟩⟩
def zRetN : ZS := fun D L S => D.rt .non S
theorem z_retN : ZPS TB X (.Return none pos) zRetN := ⟨ps_retN.conv fun D σ H ⟨L, S, A, ZD, s, l, h, _, h1, _⟩ => h1 _ _ (.here s .non h)⟩
def zIfS (c : ZT) (t u : ZS) : ZS := fun D L S => c L S fun b S1 => qIf b (t D L S1) (u D L S1)
theorem z_ifS {c : Expr} {a b : List Stmt} (hc : ZPT TB X c tt) (ha : ZPSs TB X a t) (hb : ZPSs TB X b u) : ZPS TB X (.If c a b pos) (zIfS tt t u) :=
  ⟨(ps_if hc.pt ha.ps hb.ps).conv fun D σ H ⟨L, S, A, ZD, s, l, h, k1, k2, k3, k4⟩ => ⟨L, S, A, _, s, l, h, fun v H' ⟨A1, S1, ea, eh, s1, q⟩ => by
    cases v with
    | true =>
      rw [qIf_t] at q
      rw [if_pos rfl]
      exact lowS_of s1 (l.mono ea eh) q (fun _ _ z => k1 _ _ (z.on ea eh)) (fun _ _ z => k2 _ _ (z.on ea eh)) (fun _ _ z => k3 _ _ (z.on ea eh)) (fun _ _ z => k4 _ _ (z.on ea eh))
    | false =>
      rw [qIf_f] at q
      rw [if_neg Bool.false_ne_true]
      exact lowS_of s1 (l.mono ea eh) q (fun _ _ z => k1 _ _ (z.on ea eh)) (fun _ _ z => k2 _ _ (z.on ea eh)) (fun _ _ z => k3 _ _ (z.on ea eh)) (fun _ _ z => k4 _ _ (z.on ea eh))⟩⟩
/-- code that is never reached -/
def zNever : ZS := fun _ _ _ => False
theorem z_never : ZPS TB X st zNever := ⟨ps_never.conv fun D σ H ⟨L, S, A, ZD, s, l, h, _⟩ => h⟩

/-! ### targets -/
abbrev ZTG := W → Loc' → Store → (Loc' → Store → Prop) → Prop
abbrev ZTGs := List W → Loc' → Store → (Loc' → Store → Prop) → Prop
def lowG (K : PySem.W.Frag) (TB : List Addr) (t : ZTG) : TG := fun v σ H Q => ∃ L S A w Kc, SOk K TB A S H ∧ LOk K A H L σ ∧ Rep K A H w v ∧ t w L S Kc ∧ ∀ σ' H', AftS K TB A H Kc σ' H' → Q σ' H'
def lowGs (K : PySem.W.Frag) (TB : List Addr) (t : ZTGs) : TGs := fun v σ H Q => ∃ L S A w Kc, SOk K TB A S H ∧ LOk K A H L σ ∧ Reps K A H w v ∧ t w L S Kc ∧ ∀ σ' H', AftS K TB A H Kc σ' H' → Q σ' H'
structure ZPG (TB : List Addr) (X : Cx) (e : Expr) (t : ZTG) : Prop where
  pg : PG X e (lowG X.K TB t)
structure ZPGs (TB : List Addr) (X : Cx) (e : List Expr) (t : ZTGs) : Prop where
  pg : PGs X e (lowGs X.K TB t)
theorem _root_.L2.PG.conv {T T' : TG} (h : PG X e T) (c : ∀ v σ H Q, T' v σ H Q → T v σ H Q) : PG X e T' := ⟨fun pins s σ H v u Q I r q => h.run pins s σ H v u Q I r (c v σ H Q q)⟩
theorem _root_.L2.PGs.conv {es : List Expr} {T T' : TGs} (h : PGs X es T) (c : ∀ v σ H Q, T' v σ H Q → T v σ H Q) : PGs X es T' := ⟨fun pins s σ H v u Q I r q => h.run pins s σ H v u Q I r (c v σ H Q q)⟩
def zgName (i : Nat) : ZTG := fun w L S K => qLet i (some w) L fun L' => K L' S
theorem zg_name {i : Nat} {x : Str} (hN : X.N.Nodup) (hi : X.N[i]? = some x) (hx : Loc X.env.scope x) (hf : X.fn x = true ∨ X.env.scope.names.lookup x = some .local := by first | exact .inl rfl | exact .inr rfl | assumption) : ZPG TB X (.Name x pos) (zgName i) :=
  ⟨(pg_name hN hi hx hf).conv fun v σ H Q ⟨L, S, A, w, Kc, s, l, r, h, hQ⟩ => hQ _ _ (.here s (l.set r i) (qLet_iff.mp h))⟩
def zgNil : ZTGs := fun ws L S K => match ws with
  | [] => K L S
  | _ => False
def zgCons (t : ZTG) (u : ZTGs) : ZTGs := fun ws L S K => match ws with
  | w :: r => t w L S fun L' S' => u r L' S' K
  | [] => False
theorem zgNil_ex {ws : List W} {L : Loc'} {S : Store} {K : Loc' → Store → Prop} (h : zgNil ws L S K) : ws = [] ∧ K L S := by
  cases ws with
  | nil => exact ⟨rfl, h⟩
  | cons _ _ => exact h.elim
theorem zgCons_ex {t : ZTG} {u : ZTGs} {ws : List W} {L : Loc'} {S : Store} {K : Loc' → Store → Prop} (h : zgCons t u ws L S K) : ∃ w r, ws = w :: r ∧ t w L S fun L' S' => u r L' S' K := by
  cases ws with
  | nil => exact h.elim
  | cons w r => exact ⟨w, r, rfl, h⟩
theorem zgs_nil : ZPGs TB X [] zgNil := ⟨pgs_nil.conv fun v σ H Q ⟨L, S, A, w, Kc, s, l, r, h0, hQ⟩ => by
  obtain ⟨e, h⟩ := zgNil_ex h0
  subst e
  cases r
  exact ⟨rfl, hQ _ _ (.here s l h)⟩⟩
theorem zgs_cons {es : List Expr} {t : ZTG} {u : ZTGs} (h1 : ZPG TB X e t) (h2 : ZPGs TB X es u)
    (hs : (assignEach (e :: es) X.env).map (·.2) = assign e X.env :: (assignEach es X.env).map (·.2) := by rfl) : ZPGs TB X (e :: es) (zgCons t u) := ⟨(pgs_cons h1.pg h2.pg hs).conv fun v σ H Q ⟨L, S, A, w, Kc, s, l, r, h0, hQ⟩ => by
  obtain ⟨w1, wr, e, h⟩ := zgCons_ex h0
  subst e
  cases r with
  | cons r1 r2 =>
    exact ⟨_, _, rfl, L, S, A, w1, _, s, l, r1, h, fun σ' H' ⟨A1, S1, L1, ea, eh, s1, l1, q⟩ => ⟨L1, S1, A1, wr, _, s1, l1, r2.mono ea eh, q, fun _ _ z => hQ _ _ (z.on ea eh)⟩⟩⟩
/-- (a, b, ..) = a tuple of that length -/
def zgTup (n : Nat) (t : ZTGs) : ZTG := fun w L S K => onTup (fun ws => qAr ws.length n (t ws L S K)) w
theorem zgTup_ex {n : Nat} {t : ZTGs} {w : W} {L : Loc'} {S : Store} {K : Loc' → Store → Prop} (h : zgTup n t w L S K) : ∃ ws, w = .tup ws ∧ ws.length = n ∧ t ws L S K := by
  obtain ⟨ws, e, h⟩ := onTup_ex h
  exact ⟨ws, e, qAr_ex h⟩
theorem zg_tup {es : List Expr} {k : Nat} {t : ZTGs} {n : Nat} (hc : X.calm = true) (h : ZPGs TB X es t)
    (hn : (assignEach es X.env).length = n := by rfl) (hst : (assignEach es X.env).findIdx? (·.1) = none := by rfl) : ZPG TB X (.Tuple es k pos) (zgTup n t) :=
  ⟨(pg_tup hc h.pg hn hst).conv fun v σ H Q ⟨L, S, A, w, Kc, s, l, r, h0, hQ⟩ => by
    obtain ⟨ws, e, hl, h⟩ := zgTup_ex h0
    subst e
    cases r with
    | tup h1 r1 => exact ⟨_, _, rfl, h1.sq, by rw [← r1.length]; exact hl, L, S, A, ws, Kc, s, l, r1, h, hQ⟩⟩
/-- o[i] = v by values -/
abbrev ZSet := W → W → W → Store → (Store → Prop) → Prop
def zgSub (to ti : ZE) (t : ZSet) : ZTG := fun w L S K => to L S fun o S1 => ti L S1 fun i S2 => t o i w S2 fun S3 => K L S3
@[irreducible] def qSetL : ZSet := fun o i w S K => Bx (match o, i with
  | .ref n, .int k => ∃ xs j, S[n]? = some (.lst xs) ∧ ixN xs.length k = some j ∧ K (S.set n (.lst (xs.set j w)))
  | _, _ => False)
theorem zg_subL {o i : Expr} {to ti : ZE} (ho : ZPE TB X o to) (hi : ZPE TB X i ti)
    (ha : ∀ v, assign (.Subscript o i pos) X.env v = (do
      let ov ← holding [v] (eval o X.env)
      let iv ← holding [v, ov] (eval i X.env)
      standAt pos
      holding [v, ov, iv] (setItem ov iv v)
      release [v, ov, iv] []) := by intro _; rfl) : ZPG TB X (.Subscript o i pos) (zgSub to ti qSetL) :=
  ⟨(pg_sub ho.pe hi.pe set_list ha).conv fun v σ H Q ⟨L, S, A, w, Kc, s, l, r, h, hQ⟩ => ⟨L, S, A, _, s, l, h, fun v1 H1 ⟨A1, S1, w1, ea1, eh1, s1, r1, h1⟩ =>
    ⟨L, S1, A1, _, s1, l.mono ea1 eh1, h1, fun v2 H2 ⟨A2, S2, w2, ea2, eh2, s2, r2, h2⟩ => by
      replace h2 : qSetL w1 w2 w S2 fun S3 => Kc L S3 := h2
      unfold qSetL at h2
      replace h2 := h2.ok
      split at h2
      · obtain ⟨xs, j, e1, e2, k⟩ := h2
        cases r1 with
        | ref ha1 =>
          cases r2
          obtain ⟨vs, f, q⟩ := s2.lst (ea2 _ _ ha1) e1
          refine ⟨_, _, _, j, rfl, rfl, f, by rw [← q.length]; exact e2, hQ _ _ ?_⟩
          have rr := r.mono (ea1.trans ea2) (eh1.trans eh2)
          obtain ⟨s3, eh3⟩ := s2.write (o' := .lst (xs.set j w)) (u := .lst (vs.set j v)) (ea2 _ _ ha1) e1 rfl rfl fun eh => .lst' upd_same ((Reps.set rr j q).mono (.refl _) eh)
          exact ⟨A2, _, L, ea1.trans ea2, (eh1.trans eh2).trans eh3, s3, l.mono (ea1.trans ea2) ((eh1.trans eh2).trans eh3), k⟩
      · exact h2.elim⟩⟩⟩
def zAsg (te : ZE) (g : ZTG) : ZS := fun D L S => te L S fun w S1 => g w L S1 D.nx
theorem z_asg {tg : Expr} {g : ZTG} (he : ZPE TB X e te) (hg : ZPG TB X tg g) (hs : swapsWithSole [tg] e pos.line X.env = pure false := by rfl) (hw : swappedStores [tg] e X.env = pure none := by rfl)
    (h1 : (assignEach [tg] X.env).map (·.2) = [assign tg X.env] := by rfl) : ZPS TB X (.Assign [tg] e pos) (zAsg te g) :=
  ⟨(ps_asg he.pe hg.pg hs hw h1).conv fun D σ H ⟨L, S, A, ZD, s, l, h, k1, _⟩ => ⟨L, S, A, _, s, l, h, fun v H' ⟨A1, S1, w, ea, eh, s1, r, q⟩ => ⟨L, S1, A1, w, _, s1, l.mono ea eh, r, q, fun _ _ z => k1 _ _ (z.on ea eh)⟩⟩⟩
theorem z_set {i : Nat} {x : Str} {pos' : Pos} (hN : X.N.Nodup) (hi : X.N[i]? = some x) (hx : Loc X.env.scope x) (he : ZPE TB X e te) (hs : swapsWith e (some (.Name x pos')) pos.line X.env = pure false := by rfl) (hf : X.fn x = true ∨ X.env.scope.names.lookup x = some .local := by first | exact .inl rfl | exact .inr rfl | assumption) :
    ZPS TB X (.Assign [.Name x pos'] e pos) (zAsg te (zgName i)) :=
  ⟨(ps_set hN hi hx he.pe hs hf).conv fun D σ H ⟨L, S, A, ZD, s, l, h, k1, _⟩ => ⟨L, S, A, _, s, l, h, fun v H' ⟨A1, S1, w, ea, eh, s1, r, q⟩ => k1 _ _ ⟨A1, S1, _, ea, eh, s1, (l.mono ea eh).set r i, qLet_iff.mp q⟩⟩⟩
def zPar (i j : Nat) (ta : ZA) : ZS := fun D L S => ta L S fun ws S1 => match ws with
  | [v, w] => qLet i (some v) L fun L1 => qLet j (some w) L1 fun L2 => D.nx L2 S1
  | _ => False
theorem z_par {i j : Nat} {x y : Str} {a b : Expr} {ta : ZA} {px py pt : Pos} {kt k2 pt2} (hc : X.calm = true) (hN : X.N.Nodup) (hi : X.N[i]? = some x) (hj : X.N[j]? = some y) (hij : i ≠ j)
    (hx : X.env.scope.names.lookup x = some .local) (hy : X.env.scope.names.lookup y = some .local) (ha : ZPA TB X [a, b] ta)
    (hw : swappedStores [.Tuple [.Name x px, .Name y py] kt pt] (.Tuple [a, b] k2 pt2) X.env = pure (some [x, y]))
    (hs : swapsWithSole [.Tuple [.Name x px, .Name y py] kt pt] (.Tuple [a, b] k2 pt2) pos.line X.env = pure false := by rfl) :
    ZPS TB X (.Assign [.Tuple [.Name x px, .Name y py] kt pt] (.Tuple [a, b] k2 pt2) pos) (zPar i j ta) :=
  ⟨(ps_par hc hN hi hj hij hx hy ha.pa hw hs).conv fun D σ H ⟨L, S, A, ZD, s, l, h, k1, _⟩ => ⟨L, S, A, _, s, l, h, fun vs H' ⟨A1, S1, ws, ea, eh, s1, r, q⟩ => by
    dsimp only at q
    split at q
    case h_2 => exact q.elim
    cases r with
    | cons r1 r =>
      cases r with
      | cons r2 r =>
        cases r
        exact ⟨_, _, rfl, k1 _ _ ⟨A1, S1, _, ea, eh, s1, ((l.mono ea eh).set r1 i).set r2 j, qLet_iff.mp (qLet_iff.mp q)⟩⟩⟩⟩
def zPar3 (i j k : Nat) (ta : ZA) : ZS := fun D L S => ta L S fun ws S1 => match ws with
  | [u, v, w] => qLet i (some u) L fun L1 => qLet j (some v) L1 fun L2 => qLet k (some w) L2 fun L3 => D.nx L3 S1
  | _ => False
theorem z_par3 {i j l : Nat} {x y z : Str} {a b c : Expr} {ta : ZA} {px py pz pt pos : Pos} {kt k2 pt2} (hc : X.calm = true) (hN : X.N.Nodup) (hi : X.N[i]? = some x) (hj : X.N[j]? = some y) (hl : X.N[l]? = some z) (hij : i ≠ j) (hil : i ≠ l) (hjl : j ≠ l)
    (hx : X.env.scope.names.lookup x = some .local) (hy : X.env.scope.names.lookup y = some .local) (hz : X.env.scope.names.lookup z = some .local) (ha : ZPA TB X [a, b, c] ta)
    (hw : swappedStores [.Tuple [.Name x px, .Name y py, .Name z pz] kt pt] (.Tuple [a, b, c] k2 pt2) X.env = pure (some [x, y, z]))
    (hs : swapsWithSole [.Tuple [.Name x px, .Name y py, .Name z pz] kt pt] (.Tuple [a, b, c] k2 pt2) pos.line X.env = pure false := by rfl) :
    ZPS TB X (.Assign [.Tuple [.Name x px, .Name y py, .Name z pz] kt pt] (.Tuple [a, b, c] k2 pt2) pos) (zPar3 i j l ta) :=
  ⟨(ps_par3 hc hN hi hj hl hij hil hjl hx hy hz ha.pa hw hs).conv fun D σ H ⟨L, S, A, ZD, s, l, h, k1, _⟩ => ⟨L, S, A, _, s, l, h, fun vs H' ⟨A1, S1, ws, ea, eh, s1, r, q⟩ => by
    dsimp only at q
    split at q
    case h_2 => exact q.elim
    cases r with
    | cons r1 r =>
      cases r with
      | cons r2 r =>
        cases r with
        | cons r3 r =>
          cases r
          exact ⟨_, _, _, rfl, k1 _ _ ⟨A1, S1, _, ea, eh, s1, (((l.mono ea eh).set r1 i).set r2 j).set r3 _, qLet_iff.mp (qLet_iff.mp (qLet_iff.mp q))⟩⟩⟩⟩
/-- x op= e -/
def lowP (K : PySem.W.Frag) (TB : List Addr) (r : Z2') : TIp := fun x y H Q => low2 K TB r x y H Q
structure ZIP (TB : List Addr) (X : Cx) (op : Operator) (r : Z2') : Prop where
  ok : PIp X op (lowP X.K TB r)
def zAug (i : Nat) (te : ZE) (r : Z2') : ZS := fun D L S => onV L[i]? fun x => te L S fun y S1 => r x y S1 fun z S2 => qLet i (some z) L fun L' => D.nx L' S2
theorem z_aug {i : Nat} {x : Str} {op : Operator} {r : Z2'} {pos' : Pos} (hN : X.N.Nodup) (hi : X.N[i]? = some x) (hx : Loc X.env.scope x) (he : ZPE TB X e te) (ho : ZIP TB X op r) (hf : X.fn x = true ∨ X.env.scope.names.lookup x = some .local := by first | exact .inl rfl | exact .inr rfl | assumption) :
    ZPS TB X (.AugAssign (.Name x pos') op e pos) (zAug i te r) :=
  ⟨(ps_aug hN hi hx he.pe ho.ok hf).conv fun D σ H ⟨L, S, A, ZD, s, l, h0, k1, _⟩ => by
    obtain ⟨w0, e0, h⟩ := onV_ex h0
    obtain ⟨v0, f0, r0⟩ := l.2 i w0 e0
    refine ⟨v0, f0, L, S, A, _, s, l, h, fun v H' ⟨A1, S1, w, ea, eh, s1, r1, q⟩ => ?_⟩
    exact ⟨A1, S1, w0, w, _, s1, r0.mono ea eh, r1, q, fun v2 H2 ⟨A2, S2, w2, ea2, eh2, s2, r2, q2⟩ => k1 _ _ ⟨A2, S2, _, ea.trans ea2, eh.trans eh2, s2, ((l.mono ea eh).mono ea2 eh2).set r2 i, qLet_iff.mp q2⟩⟩⟩
theorem zip_of {op : Operator} {f : Value → Value → Sem Value} {r : R2} (h : OpR X (inplaceOp op) r) : PIp X op r := h
/-- += on ints, texts; -= *= on ints -/
def qIAdd : Z2' := fun x y S K => match x, y with
  | .int i, .int j => K (.int (i + j)) S
  | .str a, .str b => a.length + b.length ≤ sizeLine ∧ K (.str (a ++ b)) S
  | _, _ => False
theorem zip_add : ZIP TB X .Add qIAdd := by
  refine ⟨fun pins s σ H x y v u Q I rx ry h => ?_⟩
  obtain ⟨A, S, wx, wy, Kc, sk, r1, r2, h, hQ⟩ := h
  cases r1 with
  | int i =>
    cases r2 with
    | int j => exact iop_add pins s σ H _ _ v u Q I rx ry ⟨i, j, rfl, rfl, hQ _ _ (.here sk (.int _) h)⟩
    | _ => exact h.elim
  | str i =>
    cases r2 with
    | str j => exact iop_add_str pins s σ H _ _ v u Q I rx ry ⟨i, j, rfl, rfl, h.1, hQ _ _ (.here sk (.str _) h.2)⟩
    | _ => exact h.elim
  | _ => exact h.elim
theorem zip_sub : ZIP TB X .Sub qSub := by
  refine ⟨fun pins s σ H x y v u Q I rx ry h => ?_⟩
  obtain ⟨A, S, wx, wy, Kc, sk, r1, r2, h, hQ⟩ := h
  cases r1 with
  | int i =>
    cases r2 with
    | int j => exact iop_sub pins s σ H _ _ v u Q I rx ry ⟨i, j, rfl, rfl, hQ _ _ (.here sk (.int _) h)⟩
    | _ => exact h.elim
  | _ => exact h.elim
end
end Z

set_option maxHeartbeats 2000000
/-! Z6: what is walked; for, list comprehensions, while. -/
namespace Z
open PySem PySem.Spec PyProof.Rows L2

/-- what is walked: its items, and what must stand of the store at each turn -/
structure ZIt where
  its : List W
  G : Store → Prop
abbrev ZTI := Loc' → Store → (ZIt → Store → Prop) → Prop
structure Wk (K : PySem.W.Frag) (TB : List Addr) (A : List Addr) (H : Hp) (z : ZIt) (J : It) : Prop where
  go : ∀ i A' S' H', i < z.its.length → AExt A A' → HExt H H' → SOk K TB A' S' H' → z.G S' → J.go i H'
  stop : ∀ A' S' H', AExt A A' → HExt H H' → SOk K TB A' S' H' → z.G S' → J.stop z.its.length H'
  yld : ∀ i A' S' H' x H'', i < z.its.length → AExt A A' → HExt H H' → SOk K TB A' S' H' → z.G S' → J.yld i H' x H'' → HExt H' H'' ∧ SOk K TB A' S' H'' ∧ ∃ w, z.its[i]? = some w ∧ Rep K A' H'' w x
theorem Wk.mono {K : PySem.W.Frag} {TB A A' : List Addr} {H H' : Hp} {z : ZIt} {J : It} (ea : AExt A A') (eh : HExt H H') (w : Wk K TB A H z J) : Wk K TB A' H' z J :=
  ⟨fun i A2 S2 H2 hi x y => w.go i A2 S2 H2 hi (ea.trans x) (eh.trans y), fun A2 S2 H2 x y => w.stop A2 S2 H2 (ea.trans x) (eh.trans y), fun i A2 S2 H2 v H3 hi x y => w.yld i A2 S2 H2 v H3 hi (ea.trans x) (eh.trans y)⟩
def lowI (K : PySem.W.Frag) (TB : List Addr) (t : ZTI) : TI := fun σ H R => ∃ L S A Kc, SOk K TB A S H ∧ LOk K A H L σ ∧ t L S Kc ∧
  ∀ z S' A' H' J, AExt A A' → HExt H H' → SOk K TB A' S' H' → Wk K TB A' H' z J → Kc z S' → R J H'
structure ZPI (TB : List Addr) (X : Cx) (tg e : Expr) (t : ZTI) : Prop where
  pi : PI X tg e (lowI X.K TB t)
theorem _root_.L2.PI.conv {X : Cx} {tg e : Expr} {T T' : TI} (h : PI X tg e T) (c : ∀ σ H R, T' σ H R → T σ H R) : PI X tg e T' := ⟨fun pins s σ H R I q => h.run pins s σ H R I (c σ H R q)⟩

section
variable {X : Cx} {TB : List Addr} {tg e l a b : Expr} {te : ZE} {ts : ZA} {pos p : Pos}
theorem wk_tup {K : PySem.W.Frag} {A : List Addr} {H : Hp} {xs : List W} {vs : List V} {a : Addr} (h : TupAt K H a vs) (r : Reps K A H xs vs) : Wk K TB A H ⟨xs, fun _ => True⟩ (Itt K a) := by
  refine ⟨fun i A' S' H' hi ea eh s _ => ?_, fun A' S' H' ea eh s _ => ⟨vs, (h.mono eh).sq, Nat.le_of_eq r.length.symm⟩, fun i A' S' H' x H'' hi ea eh s _ y => ?_⟩
  · have hi' : i < vs.length := by rw [← r.length]; exact hi
    exact ⟨vs, vs[i], (h.mono eh).sq, List.getElem?_eq_getElem hi'⟩
  · obtain ⟨rfl, y⟩ := y
    have e1 := y vs (h.mono eh).sq
    obtain ⟨w, e2, e3⟩ := r.get' e1
    exact ⟨.refl _, s, w, e2, e3.mono ea eh⟩
theorem wk_list {K : PySem.W.Frag} {A : List Addr} {H : Hp} {xs : List W} {a : Addr} {n : Nat} (ha : A[n]? = some a) : Wk K TB A H ⟨xs, fun S' => IsLst S' n xs⟩ (Itl K a) := by
  refine ⟨fun i A' S' H' hi ea eh s g => ?_, fun A' S' H' ea eh s g => ?_, fun i A' S' H' x H'' hi ea eh s g y => ?_⟩
  · obtain ⟨vs, q, r⟩ := s.seq (ea _ _ ha) g
    have hi' : i < vs.length := by rw [← r.length]; exact hi
    exact ⟨vs, vs[i], q, List.getElem?_eq_getElem hi'⟩
  · obtain ⟨vs, q, r⟩ := s.seq (ea _ _ ha) g
    exact ⟨vs, q, Nat.le_of_eq r.length.symm⟩
  · obtain ⟨rfl, y⟩ := y
    obtain ⟨vs, q, r⟩ := s.seq (ea _ _ ha) g
    have e1 := y vs q
    obtain ⟨w, e2, e3⟩ := r.get' e1
    exact ⟨.refl _, s, w, e2, e3⟩
/-- a list or a tuple walked -/
@[irreducible] def qSeqI (K : ZIt → Store → Prop) : WK := fun x S1 => Bx ((∃ xs, x = .tup xs ∧ K ⟨xs, fun _ => True⟩ S1) ∨ ∃ n xs, x = .ref n ∧ IsLst S1 n xs ∧ K ⟨xs, fun S' => IsLst S' n xs⟩ S1)
def zSeqI (te : ZE) : ZTI := fun L S K => te L S (qSeqI K)
theorem zi_seq (hl : ZPE TB X l te) : ZPI TB X tg l (zSeqI te) := by
  refine ⟨⟨fun pins s σ H R I ⟨L, S, A, Kc, sk, lk, h, hR⟩ => ?_⟩⟩
  refine thn (hl.pe.run pins s σ H _ I ⟨L, S, A, _, sk, lk, h, fun v H' q => q⟩) fun v s1 ⟨x, H1, I1, r1, A1, S1, w1, ea, eh, s1', rr, q⟩ => ?_
  unfold qSeqI at q
  replace q := q.ok
  rcases q with ⟨xs, rfl, k⟩ | ⟨n, xs, rfl, hl, k⟩
  · cases rr with
    | tup h1 q1 =>
      cases r1
      obtain ⟨its, rv, p, hz⟩ := I1.tuple h1.sq
      refine wpAny_pyIter_tuple (show s1.heap.IsTuple _ its.toArray from p) ?_
      refine ⟨s1.heap.objs.size, [s1.heap.objs.size], _, _, H1, rfl, I1.kept (t' := s1.toks) fun b o e => Heap.get?_push_of_some _ e, turn_tuple _ _, ⟨_, Heap.get?_push_size _ rfl, rfl, rfl⟩, fun b hb => ?_, hR _ S1 A1 H1 _ ea eh s1' (wk_tup h1 q1) k⟩
      have e : b = s1.heap.objs.size := by simpa using hb
      subst e
      exact I1.fpOk (Nat.le_refl _) (I1.hok.fresh (Nat.le_refl _))
  · cases rr with
    | ref h1 =>
      cases r1
      obtain ⟨vs, hq, q1⟩ := s1'.seq h1 hl
      obtain ⟨its, rv, p, hz⟩ := I1.list hq
      refine wpAny_pyIter_list p.isList ?_
      refine ⟨s1.heap.objs.size, [s1.heap.objs.size], _, _, H1, rfl, I1.kept (t' := s1.toks) fun b o e => Heap.get?_push_of_some _ e, turn_list _ _, ⟨_, Heap.get?_push_size _ rfl, rfl, rfl⟩, fun b hb => ?_, hR _ S1 A1 H1 _ ea eh s1' (wk_list h1) k⟩
      have e : b = s1.heap.objs.size := by simpa using hb
      subst e
      exact I1.fpOk (Nat.le_refl _) (I1.hok.fresh (Nat.le_refl _))
/-- the ints lo, lo + 1, .. -/
def rangeW (lo : Int) (n : Nat) : List W := (List.range n).map fun i => .int (lo + (i : Nat))
theorem rangeW_length (lo : Int) (n : Nat) : (rangeW lo n).length = n := by simp [rangeW]
theorem rangeW_get {lo : Int} {n i : Nat} (h : i < n) : (rangeW lo n)[i]? = some (.int (lo + (i : Nat))) := by simp [rangeW, h]
theorem wk_range {K : PySem.W.Frag} {A : List Addr} {H : Hp} {lo : Int} {n : Nat} : Wk K TB A H ⟨rangeW lo n, fun _ => True⟩ (Itr lo n) := by
  refine ⟨fun i A' S' H' hi ea eh s _ => ?_, fun A' S' H' ea eh s _ => ?_, fun i A' S' H' x H'' hi ea eh s _ y => ?_⟩
  · exact (rangeW_length lo n) ▸ hi
  · exact Nat.le_of_eq (rangeW_length lo n).symm
  · obtain ⟨rfl, rfl⟩ := y
    exact ⟨.refl _, s, _, rangeW_get ((rangeW_length lo n) ▸ hi), .int _⟩
def qRng (K : ZIt → Store → Prop) : List W → Store → Prop := fun ws S1 => match ws with
  | [.int j] => (-(2 ^ 62) ≤ j ∧ j < 2 ^ 62) ∧ K ⟨rangeW 0 j.toNat, fun _ => True⟩ S1
  | _ => False
theorem qRng_ex {K : ZIt → Store → Prop} {ws : List W} {S1 : Store} (h : qRng K ws S1) : ∃ j, ws = [.int j] ∧ -(2 ^ 62) ≤ j ∧ j < 2 ^ 62 ∧ K ⟨rangeW 0 j.toNat, fun _ => True⟩ S1 := by
  unfold qRng at h
  split at h
  · exact ⟨_, rfl, h.1.1, h.1.2, h.2⟩
  · exact h.elim
def zRngI (ts : ZA) : ZTI := fun L S K => ts L S (qRng K)
def qRng2 (K : ZIt → Store → Prop) : List W → Store → Prop := fun ws S1 => match ws with
  | [.int i, .int j] => (-(2 ^ 62) ≤ i ∧ i < 2 ^ 62 ∧ -(2 ^ 62) ≤ j ∧ j < 2 ^ 62) ∧ K ⟨rangeW i (j - i).toNat, fun _ => True⟩ S1
  | _ => False
theorem qRng2_ex {K : ZIt → Store → Prop} {ws : List W} {S1 : Store} (h : qRng2 K ws S1) : ∃ i j, ws = [.int i, .int j] ∧ (-(2 ^ 62) ≤ i ∧ i < 2 ^ 62 ∧ -(2 ^ 62) ≤ j ∧ j < 2 ^ 62) ∧ K ⟨rangeW i (j - i).toNat, fun _ => True⟩ S1 := by
  unfold qRng2 at h
  split at h
  · exact ⟨_, _, rfl, h⟩
  · exact h.elim
def zRng2I (ts : ZA) : ZTI := fun L S K => ts L S (qRng2 K)
theorem zi_range1 (hg : Gl X "range") (hm : X.mg "range" = none) (ha : ZPA TB X [a] ts) (hs : starEach [a] X.env = [(false, eval a X.env)] := by rfl) : ZPI TB X tg (.Call (.Name "range" p) [a] [] pos) (zRngI ts) :=
  ⟨(pi_range1 hg hm ha.pa hs).conv fun σ H R ⟨L, S, A, Kc, sk, lk, h, hR⟩ => ⟨L, S, A, _, sk, lk, h, fun vs H1 ⟨A1, S1, ws, ea, eh, s1, r, h0⟩ => by
    obtain ⟨j, e, b1, b2, k⟩ := qRng_ex h0
    subst e
    cases r with
    | cons r1 r =>
      cases r1
      cases r
      exact ⟨j, rfl, b1, b2, hR _ S1 A1 H1 _ ea eh s1 wk_range k⟩⟩⟩
theorem zi_range2 (hg : Gl X "range") (hm : X.mg "range" = none) (ha : ZPA TB X [a, b] ts) (hs : starEach [a, b] X.env = [(false, eval a X.env), (false, eval b X.env)] := by rfl) (hs2 : starEach [b] X.env = [(false, eval b X.env)] := by rfl) :
    ZPI TB X tg (.Call (.Name "range" p) [a, b] [] pos) (zRng2I ts) :=
  ⟨(pi_range2 hg hm ha.pa hs hs2).conv fun σ H R ⟨L, S, A, Kc, sk, lk, h, hR⟩ => ⟨L, S, A, _, sk, lk, h, fun vs H1 ⟨A1, S1, ws, ea, eh, s1, r, h0⟩ => by
    obtain ⟨i, j, e, b, k⟩ := qRng2_ex h0
    subst e
    cases r with
    | cons r1 r =>
      cases r with
      | cons r2 r =>
        cases r1
        cases r2
        cases r
        exact ⟨i, j, rfl, b, hR _ S1 A1 H1 _ ea eh s1 wk_range k⟩⟩⟩

/-! ### for -/
variable {tb : ZS} {g : ZTG} {ti : ZTI} {body : List Stmt} {iter : Expr}
@[irreducible] def FlEnd (z : ZIt) (g : ZTG) (tb : ZS) (D : ZEnds) (L : Loc') (S1 : Store) : Prop := Bx (∃ P : Nat → Loc' → Store → Prop, P 0 L S1 ∧
  (∀ i w L S, z.its[i]? = some w → P i L S → z.G S ∧ g w L S fun L' S' => tb { D with nx := P (i + 1), ct := P (i + 1), bk := D.nx } L' S') ∧ ∀ L S, P z.its.length L S → z.G S ∧ D.nx L S)
def zFor (ti : ZTI) (g : ZTG) (tb : ZS) : ZS := fun D L S => ti L S fun z S1 => FlEnd z g tb D L S1
theorem z_for (hp : PassesOwn (model X.prog X.w) X.A X.env X.xe) (hc : X.calm = true) (hi : ZPI TB X tg iter ti) (hg : ZPG TB X tg g) (hb : ZPSs TB X body tb)
    (hs : ∀ x, foldedSetIterable iter X.env x = pure x := by intro _; rfl) : ZPS TB X (.For tg iter body [] pos) (zFor ti g tb) := by
  refine ⟨(ps_for hp hc hi.pi hg.pg hb.ps hs).conv fun D σ H ⟨L, S, A, ZD, sk, lk, h, k1, k2, k3, k4⟩ => ?_⟩
  refine ⟨L, S, A, _, sk, lk, h, fun z S1 A1 H1 J ea eh s1 wk h0 => ?_⟩
  unfold FlEnd at h0
  replace h0 := h0.ok
  obtain ⟨P, p0, ps, pd⟩ := h0
  refine ⟨fun i m σ' H' => m = z.its.length - i ∧ i ≤ z.its.length ∧ ∃ A' S' L', AExt A1 A' ∧ HExt H1 H' ∧ SOk X.K TB A' S' H' ∧ LOk X.K A' H' L' σ' ∧ P i L' S', ⟨z.its.length, by simp, Nat.zero_le _, A1, S1, L, .refl _, .refl _, s1, lk.mono ea eh, p0⟩, ?_⟩
  rintro i m σ2 H2 ⟨rfl, hi2, A2, S2, L2, ea2, eh2, s2, l2, p2⟩
  by_cases hlt : i < z.its.length
  · have hw := List.getElem?_eq_getElem hlt
    obtain ⟨g2, q2⟩ := ps i _ L2 S2 hw p2
    refine .inr ⟨wk.go i A2 S2 H2 hlt ea2 eh2 s2 g2, fun σ' H' => ∃ A' S' L', AExt A1 A' ∧ HExt H1 H' ∧ SOk X.K TB A' S' H' ∧ LOk X.K A' H' L' σ' ∧ P (i + 1) L' S', fun σ' H' n => ⟨z.its.length - (i + 1), by omega, rfl, hlt, n⟩, fun x H3 y => ?_⟩
    obtain ⟨eh3, s3, w, hw', rw'⟩ := wk.yld i A2 S2 H2 x H3 hlt ea2 eh2 s2 g2 y
    rw [hw] at hw'
    cases hw'
    refine ⟨L2, S2, A2, _, _, s3, l2.mono (.refl _) eh3, rw', q2, fun σ4 H4 ⟨A4, S4, L4, ea4, eh4, s4, l4, q4⟩ => ?_⟩
    have EA := (ea2.trans ea4)
    have EH := (eh2.trans eh3).trans eh4
    refine lowS_of s4 l4 q4 (fun σ5 H5 ⟨A5, S5, L5, ea5, eh5, s5, l5, q5⟩ => ⟨A5, S5, L5, EA.trans ea5, EH.trans eh5, s5, l5, q5⟩) (fun v H5 q5 => k2 _ _ (q5.on (ea.trans EA) (eh.trans EH)))
      (fun σ5 H5 q5 => k1 _ _ (q5.on (ea.trans EA) (eh.trans EH))) (fun σ5 H5 ⟨A5, S5, L5, ea5, eh5, s5, l5, q5⟩ => ⟨A5, S5, L5, EA.trans ea5, EH.trans eh5, s5, l5, q5⟩)
  · have e : i = z.its.length := by omega
    subst e
    obtain ⟨g2, q2⟩ := pd L2 S2 p2
    exact .inl ⟨wk.stop A2 S2 H2 ea2 eh2 s2 g2, k1 _ _ ⟨A2, S2, L2, ea.trans ea2, eh.trans eh2, s2, l2, q2⟩⟩

/-! ### while -/
@[irreducible] def WhEnd (c : ZT) (tb : ZS) (D : ZEnds) (L : Loc') (S : Store) : Prop := Bx (∃ (P : Nat → Loc' → Store → Prop), (∃ m, P m L S) ∧
  ∀ m L S, P m L S → c L S fun b S1 => qIf b (tb { D with nx := fun L' S' => ∃ m', m' < m ∧ P m' L' S', ct := fun L' S' => ∃ m', m' < m ∧ P m' L' S', bk := D.nx } L S1) (D.nx L S1))
def zWhile (c : ZT) (tb : ZS) : ZS := fun D L S => WhEnd c tb D L S
theorem z_while {c : Expr} {tt : ZT} (hp : PassesOwn (model X.prog X.w) X.A X.env X.xe) (hc : ZPT TB X c tt) (hb : ZPSs TB X body tb) : ZPS TB X (.While c body [] pos) (zWhile tt tb) := by
  refine ⟨(ps_while hp hc.pt hb.ps).conv fun D σ H ⟨L, S, A, ZD, sk, lk, h0, k1, k2, k3, k4⟩ => ?_⟩
  replace h0 : WhEnd tt tb ZD L S := h0
  unfold WhEnd at h0
  replace h0 := h0.ok
  obtain ⟨P, ⟨m0, p0⟩, ps⟩ := h0
  let W' : Nat → L2.St → Hp → Prop := fun m σ' H' => ∃ A' S' L', AExt A A' ∧ HExt H H' ∧ SOk X.K TB A' S' H' ∧ LOk X.K A' H' L' σ' ∧ P m L' S'
  refine ⟨W', ⟨m0, A, S, L, .refl _, .refl _, sk, lk, p0⟩, ?_⟩
  rintro m σ2 H2 ⟨A2, S2, L2, ea2, eh2, s2, l2, p2⟩
  refine ⟨L2, S2, A2, _, s2, l2, ps m L2 S2 p2, fun b H3 ⟨A3, S3, ea3, eh3, s3, q3⟩ => ?_⟩
  have EA := ea2.trans ea3
  have EH := eh2.trans eh3
  cases b with
  | true =>
    dsimp only at q3 ⊢
    rw [qIf_t] at q3
    rw [if_pos rfl]
    refine ⟨fun σ' H' => ∃ m', m' < m ∧ W' m' σ' H', fun σ' H' n => n, ?_⟩
    refine lowS_of s3 (l2.mono ea3 eh3) q3 (fun σ5 H5 ⟨A5, S5, L5, ea5, eh5, s5, l5, m', hm, q5⟩ => ⟨m', hm, A5, S5, L5, EA.trans ea5, EH.trans eh5, s5, l5, q5⟩) (fun v H5 q5 => k2 _ _ (q5.on EA EH))
      (fun σ5 H5 q5 => k1 _ _ (q5.on EA EH)) (fun σ5 H5 ⟨A5, S5, L5, ea5, eh5, s5, l5, m', hm, q5⟩ => ⟨m', hm, A5, S5, L5, EA.trans ea5, EH.trans eh5, s5, l5, q5⟩)
  | false =>
    dsimp only at q3 ⊢
    rw [qIf_f] at q3
    rw [if_neg Bool.false_ne_true]
    exact k1 _ _ ⟨A3, S3, L2, EA, EH, s3, l2.mono ea3 eh3, q3⟩

/-! ### list comprehensions, one clause -/
/-- the slots of the block's own names forgotten -/
def wipeL (L : Loc') : List Nat → Loc'
  | [] => L
  | v :: vs => (wipeL L vs).set v none
theorem LOk.forget {K : PySem.W.Frag} {A : List Addr} {H : Hp} {L : Loc'} {σ : L2.St} (h : LOk K A H L σ) (i : Nat) : LOk K A H (L.set i none) (σ.set i none) := by
  refine ⟨by simp [h.1], fun j x e => ?_⟩
  by_cases hj : i = j
  · subst hj
    by_cases hi : i < L.length
    · rw [List.getElem?_set_self hi] at e; cases e
    · rw [List.getElem?_eq_none (by simpa using hi)] at e; cases e
  · rw [List.getElem?_set_ne hj] at e
    obtain ⟨v', h1, h2⟩ := h.2 j x e
    exact ⟨v', by rw [List.getElem?_set_ne hj]; exact h1, h2⟩
theorem LOk.wipe {K : PySem.W.Frag} {A : List Addr} {H : Hp} {L : Loc'} {σ : L2.St} (h : LOk K A H L σ) : ∀ vs : List Nat, LOk K A H (wipeL L vs) (L2.wipe σ vs)
  | [] => h
  | v :: vs => (LOk.wipe h vs).forget v
/-- a target whose names are the block's own -/
def lowGc (K : PySem.W.Frag) (TB : List Addr) (vs : List Nat) (t : ZTG) : TG := fun v σ H Q => ∃ L S A w Kc, SOk K TB A S H ∧ LOk K A H L σ ∧ Rep K A H w v ∧ t w L S Kc ∧ ∀ σ' H', AftS K TB A H Kc σ' H' → L2.wipe σ' vs = L2.wipe σ vs → Q σ' H'
def lowGcs (K : PySem.W.Frag) (TB : List Addr) (vs : List Nat) (t : ZTGs) : TGs := fun v σ H Q => ∃ L S A w Kc, SOk K TB A S H ∧ LOk K A H L σ ∧ Reps K A H w v ∧ t w L S Kc ∧ ∀ σ' H', AftS K TB A H Kc σ' H' → L2.wipe σ' vs = L2.wipe σ vs → Q σ' H'
structure ZPGc (TB : List Addr) (vs : List Nat) (X : Cx) (e : Expr) (t : ZTG) : Prop where
  pg : PG X e (lowGc X.K TB vs t)
structure ZPGcs (TB : List Addr) (vs : List Nat) (X : Cx) (e : List Expr) (t : ZTGs) : Prop where
  pg : PGs X e (lowGcs X.K TB vs t)
theorem wipe_set {σ : L2.St} {i : Nat} {v : Option V} : ∀ {vs : List Nat}, i ∈ vs → L2.wipe (σ.set i v) vs = L2.wipe σ vs
  | [], h => by cases h
  | j :: vs, h => by
    unfold L2.wipe
    rcases List.mem_cons.mp h with e | h
    · subst e
      have key : ∀ (vs : List Nat), (L2.wipe (σ.set i v) vs).set i none = (L2.wipe σ vs).set i none := by
        intro vs
        induction vs with
        | nil => unfold L2.wipe; rw [List.set_set]
        | cons k ks ih =>
          unfold L2.wipe
          by_cases hk : k = i
          · subst hk
            rw [List.set_set, List.set_set]
            exact ih
          · rw [List.set_comm _ _ hk, List.set_comm _ _ hk, ih]
      exact key vs
    · rw [wipe_set h]
theorem zgc_name {vs : List Nat} {i : Nat} {x : Str} (hN : X.N.Nodup) (hi : X.N[i]? = some x) (hx : Loc X.env.scope x) (hv : i ∈ vs) (hf : X.fn x = true ∨ X.env.scope.names.lookup x = some .local := by first | exact .inl rfl | exact .inr rfl | assumption) : ZPGc TB vs X (.Name x pos) (zgName i) :=
  ⟨(pg_name hN hi hx hf).conv fun v σ H Q ⟨L, S, A, w, Kc, s, l, r, h, hQ⟩ => hQ _ _ (.here s (l.set r i) (qLet_iff.mp h)) (wipe_set hv)⟩
theorem zgcs_nil {vs : List Nat} : ZPGcs TB vs X [] zgNil := ⟨pgs_nil.conv fun v σ H Q ⟨L, S, A, w, Kc, s, l, r, h0, hQ⟩ => by
  obtain ⟨e, h⟩ := zgNil_ex h0
  subst e
  cases r
  exact ⟨rfl, hQ _ _ (.here s l h) rfl⟩⟩
theorem zgcs_cons {vs : List Nat} {es : List Expr} {t : ZTG} {u : ZTGs} (h1 : ZPGc TB vs X e t) (h2 : ZPGcs TB vs X es u)
    (hs : (assignEach (e :: es) X.env).map (·.2) = assign e X.env :: (assignEach es X.env).map (·.2) := by rfl) : ZPGcs TB vs X (e :: es) (zgCons t u) := ⟨(pgs_cons h1.pg h2.pg hs).conv fun v σ H Q ⟨L, S, A, w, Kc, s, l, r, h0, hQ⟩ => by
  obtain ⟨w1, wr, e, h⟩ := zgCons_ex h0
  subst e
  cases r with
  | cons r1 r2 =>
    exact ⟨_, _, rfl, L, S, A, w1, _, s, l, r1, h, fun σ' H' ⟨A1, S1, L1, ea, eh, s1, l1, q⟩ e1 => ⟨L1, S1, A1, wr, _, s1, l1, r2.mono ea eh, q, fun _ _ z e2 => hQ _ _ (z.on ea eh) (e2.trans e1)⟩⟩⟩
theorem zgc_tup {vs : List Nat} {es : List Expr} {k : Nat} {t : ZTGs} {n : Nat} (hc : X.calm = true) (h : ZPGcs TB vs X es t)
    (hn : (assignEach es X.env).length = n := by rfl) (hst : (assignEach es X.env).findIdx? (·.1) = none := by rfl) : ZPGc TB vs X (.Tuple es k pos) (zgTup n t) :=
  ⟨(pg_tup hc h.pg hn hst).conv fun v σ H Q ⟨L, S, A, w, Kc, s, l, r, h0, hQ⟩ => by
    obtain ⟨ws, e, hl, h⟩ := zgTup_ex h0
    subst e
    cases r with
    | tup h1 r1 => exact ⟨_, _, rfl, h1.sq, by rw [← r1.length]; exact hl, L, S, A, ws, Kc, s, l, r1, h, hQ⟩⟩
structure ZPTs (TB : List Addr) (X : Cx) (ifs : List Expr) (t : ZT) : Prop where
  pt : PTs X ifs (lowT X.K TB t)
theorem zts_nil : ZPTs TB X [] (fun _ S K => K true S) := ⟨⟨fun pins s σ H Q I ⟨L, S, A, Kc, sk, lk, h, hQ⟩ => pts_nil.run pins s σ H Q I (hQ _ _ ⟨A, S, .refl _, .refl _, sk, h⟩)⟩⟩
theorem zts_one {c : Expr} {t : ZT} (h : ZPT TB X c t) : ZPTs TB X [c] t := ⟨pts_one h.pt⟩
@[irreducible] def qPush (n : Nat) (acc : List W) (y : W) (S5 : Store) (KS : List W → Store → Prop) : Prop := Bx (S5[n]? = some (.lst acc) ∧ acc.length < sizeLine ∧ KS (acc ++ [y]) (S5.set n (.lst (acc ++ [y]))))
@[irreducible] def LcEnd (z : ZIt) (g : ZTG) (tt : ZT) (te : ZE) (vs : List Nat) (L : Loc') (S1 : Store) (K : WK) : Prop := Bx (∃ P : Nat → List W → Store → Prop, P 0 [] (S1 ++ [.lst []]) ∧
  (∀ i acc w S2, z.its[i]? = some w → P i acc S2 → z.G S2 ∧ S2[S1.length]? = some (.lst acc) ∧ g w (wipeL L vs) S2 fun L' S3 => tt L' S3 fun b S4 =>
    qIf b (te L' S4 fun y S5 => qPush S1.length acc y S5 (P (i + 1))) (P (i + 1) acc S4)) ∧
  ∀ acc S2, P z.its.length acc S2 → z.G S2 ∧ K (.ref S1.length) S2)
def zLc (ti : ZTI) (g : ZTG) (tt : ZT) (te : ZE) (vs : List Nat) : ZE := fun L S K => ti L S fun z S1 => LcEnd z g tt te vs L S1 K
theorem lc_low {K : PySem.W.Frag} {tt : ZT} {te : ZE} {vs : List Nat} {σ : L2.St} {H : Hp} {Q : VK} (h : low K TB (zLc ti g tt te vs) σ H Q) : tLc (lowI K TB ti) (lowGc K TB vs g) (lowT K TB tt) (low K TB te) vs σ H Q := by
  obtain ⟨L, S, A, Kc, sk, lk, h, hQ⟩ := h
  refine ⟨L, S, A, _, sk, lk, h, fun z S1 A1 H1 J ea eh s1 wk h0 D hD => ?_⟩
  unfold LcEnd at h0
  replace h0 := h0.ok
  obtain ⟨P, p0, ps, pd⟩ := h0
  have eaD := AExt.snoc A1 D
  have ehD : HExt H1 (upd H1 D (.lst [])) := .new hD
  have sD : SOk K TB (A1 ++ [D]) (S1 ++ [.lst []]) (upd H1 D (.lst [])) := s1.new hD (.lst' upd_same .nil)
  have hDn : (A1 ++ [D])[S1.length]? = some D := by rw [← s1.len]; simp
  let W' : Nat → Hp → Prop := fun i H' => ∃ A' S' acc, AExt (A1 ++ [D]) A' ∧ HExt (upd H1 D (.lst [])) H' ∧ SOk K TB A' S' H' ∧ P i acc S'
  refine ⟨fun i m H' => m = z.its.length - i ∧ i ≤ z.its.length ∧ W' i H', ⟨z.its.length, by simp, Nat.zero_le _, _, _, [], .refl _, .refl _, sD, p0⟩, ?_⟩
  rintro i m H2 ⟨rfl, hi2, A2, S2, acc, ea2, eh2, s2, p2⟩
  have EA := eaD.trans ea2
  have EH := ehD.trans eh2
  by_cases hlt : i < z.its.length
  · have hw := List.getElem?_eq_getElem hlt
    obtain ⟨g2, hS2, q2⟩ := ps i acc _ S2 hw p2
    refine .inr ⟨wk.go i A2 S2 H2 hlt EA EH s2 g2, W' (i + 1), fun H' n => ⟨z.its.length - (i + 1), by omega, rfl, hlt, n⟩, fun x H3 y => ?_⟩
    obtain ⟨eh3, s3, w, hw', rw'⟩ := wk.yld i A2 S2 H2 x H3 hlt EA EH s2 g2 y
    rw [hw] at hw'
    cases hw'
    refine ⟨wipeL L vs, S2, A2, _, _, s3, ((lk.mono (ea.trans EA) ((eh.trans EH).trans eh3)).wipe vs), rw', q2, fun σ4 H4 ⟨A4, S4, L4, ea4, eh4, s4, l4, q4⟩ e4 => ⟨?_, ?_⟩⟩
    · have idem : ∀ (vs : List Nat) (σ : L2.St), L2.wipe (L2.wipe σ vs) vs = L2.wipe σ vs := by
        have key : ∀ (us vs : List Nat) (σ : L2.St), (∀ u ∈ us, u ∈ vs) → L2.wipe (L2.wipe σ us) vs = L2.wipe σ vs := by
          intro us
          induction us with
          | nil => intro vs σ _; rfl
          | cons u us ih =>
            intro vs σ hu
            show L2.wipe ((L2.wipe σ us).set u none) vs = _
            rw [wipe_set (hu u List.mem_cons_self)]
            exact ih vs σ fun x hx => hu x (List.mem_cons_of_mem _ hx)
        intro vs σ
        exact key vs vs σ fun _ h => h
      rw [e4, idem]
    · refine ⟨L4, S4, A4, _, s4, l4, q4, fun b H5 ⟨A5, S5, ea5, eh5, s5, q5⟩ => ?_⟩
      have EA5 := (ea2.trans ea4).trans ea5
      have EH5 := ((eh2.trans eh3).trans eh4).trans eh5
      cases b with
      | false =>
        dsimp only at q5 ⊢
        rw [qIf_f] at q5
        rw [if_neg Bool.false_ne_true]
        exact ⟨A5, S5, acc, EA5, EH5, s5, q5⟩
      | true =>
        dsimp only at q5 ⊢
        rw [qIf_t] at q5
        rw [if_pos rfl]
        refine ⟨L4, S5, A5, _, s5, l4.mono ea5 eh5, q5, fun v6 H6 ⟨A6, S6, w6, ea6, eh6, s6, r6, p7⟩ => ?_⟩
        unfold qPush at p7
        obtain ⟨hS6, hz, p6⟩ := p7.ok
        have hA6 := (EA5.trans ea6) _ _ hDn
        obtain ⟨us, f, q⟩ := s6.lst hA6 hS6
        refine ⟨us, f, by rw [← q.length]; exact hz, ?_⟩
        obtain ⟨s7, eh7⟩ := s6.write (o' := .lst (acc ++ [w6])) (u := .lst (us ++ [v6])) hA6 hS6 rfl rfl fun eh => .lst' upd_same ((q.append (.cons r6 .nil)).mono (.refl _) eh)
        exact ⟨A6, _, acc ++ [w6], EA5.trans ea6, (EH5.trans eh6).trans eh7, s7, p6⟩
  · have e : i = z.its.length := by omega
    subst e
    obtain ⟨g2, q2⟩ := pd acc S2 p2
    exact .inl ⟨wk.stop A2 S2 H2 EA EH s2 g2, hQ _ _ ⟨A2, S2, .ref S1.length, ea.trans EA, eh.trans EH, s2, .ref (ea2 _ _ hDn), q2⟩⟩
theorem z_lc {elt : Expr} {ifs : List Expr} {scope : Scope} {own : List (Str × Nat)} {tt : ZT} {te : ZE} (hc : X.calm = true) (hN : X.N.Nodup) (hi : ZPI TB X tg iter ti) (ok : BlkOk X.N X.env.scope scope own)
    (hg : ∀ (s : Shared) (H : Hp) (C : Addr) (cl : List (Str × Addr)) (fp : List Addr), ZPGc TB (own.map (·.2)) (X.blk s H scope (compEnvC scope cl C X.env) fp) tg g) (ht : ∀ (s : Shared) (H : Hp) (C : Addr) (cl : List (Str × Addr)) (fp : List Addr), ZPTs TB (X.blk s H scope (compEnvC scope cl C X.env) fp) ifs tt)
    (he : ∀ (s : Shared) (H : Hp) (C : Addr) (cl : List (Str × Addr)) (fp : List Addr), ZPE TB (X.blk s H scope (compEnvC scope cl C X.env) fp) elt te) (hs : ∀ x, foldedSetIterable iter X.env x = pure x := by intro _; rfl) :
    ZPE TB X (.ListComp elt [⟨tg, iter, ifs, 0⟩] scope pos) (zLc ti g tt te (own.map (·.2))) :=
  ⟨(pe_lc hc hN hi.pi ok (fun s H C cl fp => (hg s H C cl fp).pg) (fun s H C cl fp => (ht s H C cl fp).pt) (fun s H C cl fp => (he s H C cl fp).pe) hs).conv fun σ H Q h => lc_low h⟩
/-- name = [..] on one line, the name a local -/
theorem z_setLc {i : Nat} {y : Str} {py spos : Pos} {elt : Expr} {ifs : List Expr} {scope : Scope} {own : List (Str × Nat)} {tt : ZT} {te : ZE} (hc : X.calm = true) (hN : X.N.Nodup) (hy : X.N[i]? = some y) (hyl : X.env.scope.names.lookup y = some .local)
    (hsw : swapsWith (.ListComp elt [⟨tg, iter, ifs, 0⟩] scope pos) (some (.Name y py)) spos.line X.env = pure true) (hi : ZPI TB X tg iter ti) (ok : BlkOk X.N X.env.scope scope own)
    (hg : ∀ (s : Shared) (H : Hp) (C : Addr) (cl : List (Str × Addr)) (fp : List Addr), ZPGc TB (own.map (·.2)) (X.blk s H scope (compEnvC scope cl C X.env) fp) tg g) (ht : ∀ (s : Shared) (H : Hp) (C : Addr) (cl : List (Str × Addr)) (fp : List Addr), ZPTs TB (X.blk s H scope (compEnvC scope cl C X.env) fp) ifs tt)
    (he : ∀ (s : Shared) (H : Hp) (C : Addr) (cl : List (Str × Addr)) (fp : List Addr), ZPE TB (X.blk s H scope (compEnvC scope cl C X.env) fp) elt te) (hs : ∀ x, foldedSetIterable iter X.env x = pure x := by intro _; rfl) :
    ZPS TB X (.Assign [.Name y py] (.ListComp elt [⟨tg, iter, ifs, 0⟩] scope pos) spos) (zAsg (zLc ti g tt te (own.map (·.2))) (zgName i)) :=
  ⟨(ps_setLc hc hN hy hyl hsw hi.pi ok (fun s H C cl fp => (hg s H C cl fp).pg) (fun s H C cl fp => (ht s H C cl fp).pt) (fun s H C cl fp => (he s H C cl fp).pe) hs).conv fun D σ H ⟨L, S, A, ZD, sk, lk, h, k1, _⟩ =>
    lc_low ⟨L, S, A, _, sk, lk, h, fun v H' ⟨A1, S1, w, ea, eh, s1, r, q⟩ => k1 _ _ ⟨A1, S1, _, ea, eh, s1, (lk.mono ea eh).set r i, qLet_iff.mp q⟩⟩⟩
end
end Z

set_option maxHeartbeats 2000000
/-! Z7: a def by its body; the law's end. -/
namespace Z
open PySem PySem.Spec PyProof.Rows L2
def startL (N : Nat) (ws : List W) : Loc' := ws.map some ++ List.replicate (N - ws.length) none
theorem lok_start {K : PySem.W.Frag} {A : List Addr} {H : Hp} {ws : List W} {vs : List V} (N : List Str) (r : Reps K A H ws vs) : LOk K A H (startL N.length ws) (L2.start N vs) := by
  have hl := r.length
  refine ⟨by simp [startL, L2.start, hl], fun i w e => ?_⟩
  unfold startL at e
  by_cases hi : i < ws.length
  · rw [List.getElem?_append_left (by simpa using hi), List.getElem?_map] at e
    cases e1 : ws[i]? with
    | none => rw [e1] at e; cases e
    | some w' =>
      rw [e1] at e
      have e2 : w' = w := by simpa using e
      subst e2
      obtain ⟨v, h1, h2⟩ := r.get e1
      refine ⟨v, ?_, h2⟩
      unfold L2.start
      rw [List.getElem?_append_left (by simp; omega), List.getElem?_map, h1]
      rfl
  · rw [List.getElem?_append_right (by simpa using hi), List.getElem?_replicate] at e
    split at e <;> cases e
section
variable {P : Program} {w : World} {K : PySem.W.Frag} {mg : Str → Option Value} {base : Heap} {TB : List Addr}
/-- THE RULE for a def -/
theorem fn_z {x qual : Str} {st : Stmt} {f : Addr} {fd : FuncData} {N ps : List Str} {k : Nat} {sp : ZC} {t : ZS} (F : Fun K x qual st f fd) (S : FnScope N ps (defScope st))
    (hbody : ∀ (cdv : Value) (A : Around) (outer : List Env) (s : Shared) (H : Hp) (E : XK), Room k (A.deeper (envOfC qual (defScope st) s.heap.objs.size f cdv)) → ZPSs TB (cxOf CX0 P w K mg base N qual (defScope st) f cdv A outer s H E).nox (defBody st) t)
    (h : ∀ ws S Kc, sp ws S Kc → ws.length = ps.length → t { nx := fun _ S' => Kc .non S', rt := Kc } (startL N.length ws) S) : ZFn P w K mg base TB (k + 1) f fd ps sp := by
  refine F.ok S (fun vs H Q E h => h.1) fun cdv A outer s H vs Q E hr ⟨hl, A0, S0, ws, Kc, sk, r, hsp, hQ⟩ => ?_
  refine ⟨_, (hbody cdv A outer s H E hr).ps, ?_⟩
  exact lowS_of sk (lok_start N r) (h ws S0 Kc hsp (by rw [r.length]; exact hl)) (fun σ' H' ⟨A1, S1, L1, ea, eh, s1, l1, q⟩ => hQ _ _ ⟨A1, S1, .non, ea, eh, s1, .non, q⟩) (fun v H' q => hQ _ _ q)
    (fun _ _ ⟨_, _, _, _, _, _, _, q⟩ => q.elim) (fun _ _ ⟨_, _, _, _, _, _, _, q⟩ => q.elim)
/-- a def of the text that may be called by its name -/
structure Cal (P : Program) (w : World) (K : PySem.W.Frag) (mg : Str → Option Value) (base : Heap) (TB : List Addr) (k : Nat) (x : Str) (n : Nat) (sp : ZC) : Prop where
  ex : ∃ (f : Addr) (fd : FuncData) (ps : List Str), ps.length = n ∧ ZFn P w K mg base TB k f fd ps sp ∧ mg x = some (.ref f) ∧ PySem.W.keepIn K (.ref f) = true ∧ Binds K fd ps []
theorem Cal.mono {k j : Nat} {x : Str} {n : Nat} {sp : ZC} (c : Cal P w K mg base TB k x n sp) (h : k ≤ j) : Cal P w K mg base TB j x n sp := by
  obtain ⟨f, fd, ps, a, b, c⟩ := c.ex
  exact ⟨f, fd, ps, a, b.mono h, c⟩
theorem Cal.imp {k : Nat} {x : Str} {n : Nat} {sp sp' : ZC} (c : Cal P w K mg base TB k x n sp) (h : ∀ ws S Kc, sp' ws S Kc → sp ws S Kc) : Cal P w K mg base TB k x n sp' := by
  obtain ⟨f, fd, ps, a, b, c⟩ := c.ex
  exact ⟨f, fd, ps, a, b.imp fun vs H Q E ⟨h1, A0, S0, ws, Kc, sk, r, hsp, hQ⟩ => ⟨h1, A0, S0, ws, Kc, sk, r, h _ _ _ hsp, hQ⟩, c⟩
end
section
variable {X : Cx} {TB : List Addr} {e : Expr} {es : List Expr} {ts : ZA} {pos p : Pos} {x : Str} {k n : Nat} {sp : ZC}
theorem z_cal (C : Cal X.prog X.w X.K X.mg X.base TB k x n sp) (hr : Room k X.A) (hg : Gl X x) (ha : ZPA TB X (e :: es) ts) (hdb : (x == ("__debug__" : Str)) = false := by decide)
    (he : starEach (e :: es) X.env = (false, eval e X.env) :: starEach es X.env := by rfl) (hpl : (backTo pos (starEach es X.env)).any (·.1) = false := by rfl) : ZPE TB X (.Call (.Name x p) (e :: es) [] pos) (zCallF n sp ts) := by
  obtain ⟨f, fd, ps, rfl, F, hm, hk, hb⟩ := C.ex
  exact z_call F hr hg hm hk hb ha hdb he hpl
end
/-- the law's promise from the store's: the script as a list that nobody writes -/
theorem law_z {K : PySem.W.Frag} {P : Program} {w : World} {mg : Str → Option Value} {base : Heap} {k : Nat} {f : Addr} {fd : FuncData} {sp : ZC}
    (F : ZFn P w K mg base [] k f fd ["script"] sp) (h : ∀ ns : List Int, ns.length ≤ 63 → ∀ Kc : WK, (∀ S', Kc (.bl true) S') → sp [.ref 0] [.frz (ns.map W.int)] Kc) :
    FnOk P w K mg base CX0 k f fd ["script"] (fun vs H Q _ => ∃ (a : Addr) (ns : List Int), vs = [.ref a] ∧ ns.length ≤ 63 ∧ Only H ∧ SqL K H a (ns.map V.int) ∧ ∀ H', Q (.bl true) H') := by
  refine F.imp fun vs H Q E ⟨a, ns, e, hl, ho, hS, q⟩ => ?_
  subst e
  have fz : FrzAt K H a (ns.map V.int) := by
    rcases hS with (hS | hS) | hS
    · rcases ho a with z | ⟨o, xs, z⟩ <;> rw [hS] at z <;> cases z
    · exact .inl hS
    · exact .inr hS
  have rs : ∀ ns : List Int, Reps K [a] H (ns.map W.int) (ns.map V.int) := by
    intro ns
    induction ns with
    | nil => exact .nil
    | cons n ns ih => exact .cons (.int n) ih
  refine ⟨rfl, [a], [.frz (ns.map W.int)], [.ref 0], fun w S' => w = .bl true, ?_, .cons (.ref rfl) .nil, h ns hl _ fun _ => rfl, fun v H' ⟨A', S', w', _, _, _, r, e⟩ => ?_⟩
  · refine ⟨rfl, fun i j b o u h1 h2 h3 h4 m1 _ => ?_, fun n b o h1 h2 => ?_, fun P hP => nomatch hP⟩
    · cases i with
      | zero => cases h3; cases m1
      | succ i => cases h3
    · cases n with
      | zero =>
        cases h1
        cases h2
        exact Exists.intro _ ⟨fz, rs ns⟩
      | succ n => cases h1
  · subst e
    cases r
    exact q _
end Z

set_option maxHeartbeats 2000000
/-! Z8: keywords' calls; sorted of ints. -/
namespace Z
open PySem PySem.Spec PyProof.Rows L2
theorem hu65 {A : Around} {k : Nat} (hr : Room k A) : A.units + 65 < cLine := by have := hr.un; omega
section
variable {X : Cx} {TB : List Addr} {e : Expr} {es : List Expr} {kws : List Keyword} {ts tr : ZA} {te : ZE} {pos p kpos : Pos} {x : Str} {k n : Nat} {sp : ZC} {nm : Option Str}
structure ZPK (TB : List Addr) (X : Cx) (es : List Keyword) (t : ZA) : Prop where
  pk : PK X es (lowA X.K TB t)
theorem _root_.L2.PK.conv {T T' : TA} (h : PK X kws T) (c : ∀ σ H Q, T' σ H Q → T σ H Q) : PK X kws T' := ⟨fun pos pins s σ H Q I q => h.run pos pins s σ H Q I (c σ H Q q)⟩
theorem zpk_nil : ZPK TB X [] zNil := ⟨pk_nil.conv fun σ H Q ⟨L, S, A, Kc, s, l, h, hQ⟩ => hQ _ _ ⟨A, S, [], .refl _, .refl _, s, .nil, h⟩⟩
theorem zpk_cons (ha : ZPE TB X e te) (hr : ZPK TB X kws tr) : ZPK TB X (⟨nm, e, kpos⟩ :: kws) (zCons te tr) :=
  ⟨(pk_cons ha.pe hr.pk).conv fun σ H Q ⟨L, S, A, Kc, s, l, h, hQ⟩ => ⟨L, S, A, _, s, l, h, fun v1 H1 ⟨A1, S1, w1, ea1, eh1, s1, r1, h1⟩ =>
    ⟨L, S1, A1, _, s1, l.mono ea1 eh1, h1, fun vs H2 ⟨A2, S2, ws, ea2, eh2, s2, r2, h2⟩ => hQ _ _ ⟨A2, S2, w1 :: ws, ea1.trans ea2, eh1.trans eh2, s2, .cons (r1.mono ea2 eh2) r2, h2⟩⟩⟩⟩
/-- the values in the parameters' order -/
def pick {α : Type} (perm : List Nat) (ws : List α) : List α := perm.filterMap fun i => ws[i]?
theorem vals_pick {vs : List V} {us : List Value} (r : Vals vs us) : ∀ perm : List Nat, Vals (pick perm vs) (pick perm us)
  | [] => .nil
  | i :: is => by
    unfold pick
    cases h : vs[i]? with
    | none => rw [List.filterMap_cons_none h, List.filterMap_cons_none (r.none_of h)]; exact vals_pick r is
    | some v =>
      obtain ⟨u, hu, ru⟩ := r.get h
      rw [List.filterMap_cons_some h, List.filterMap_cons_some hu]
      exact .cons ru (vals_pick r is)
theorem Reps.pick {K : PySem.W.Frag} {A : List Addr} {H : Hp} {ws : List W} {vs : List V} (r : Reps K A H ws vs) : ∀ perm : List Nat, Reps K A H (Z.pick perm ws) (Z.pick perm vs)
  | [] => .nil
  | i :: is => by
    unfold Z.pick
    cases h : ws[i]? with
    | none =>
      have h2 : vs[i]? = none := List.getElem?_eq_none_iff.mpr (by rw [← r.length]; exact List.getElem?_eq_none_iff.mp h)
      rw [List.filterMap_cons_none h, List.filterMap_cons_none h2]; exact Reps.pick r is
    | some v =>
      obtain ⟨u, hu, ru⟩ := r.get h
      rw [List.filterMap_cons_some h, List.filterMap_cons_some hu]
      exact .cons ru (Reps.pick r is)
/-- a def called by keywords alone -/
structure CalK (P : Program) (w : World) (K : PySem.W.Frag) (mg : Str → Option Value) (base : Heap) (TB : List Addr) (k : Nat) (x : Str) (n : Nat) (ks : List Str) (perm : List Nat) (sp : ZC) : Prop where
  ex : ∃ (f : Addr) (fd : FuncData) (ps : List Str), ps.length = n ∧ ZFn P w K mg base TB k f fd ps sp ∧ mg x = some (.ref f) ∧ PySem.W.keepIn K (.ref f) = true ∧
    ∀ (s : Shared) (ws : List Value), (pick perm ws).length = ps.length → BindsTo s fd ⟨[], ks.zip ws⟩ (ps.zip (pick perm ws))
theorem CalK.mono {P : Program} {w : World} {K : PySem.W.Frag} {mg : Str → Option Value} {base : Heap} {ks : List Str} {perm : List Nat} {j : Nat} (c : CalK P w K mg base TB k x n ks perm sp) (h : k ≤ j) : CalK P w K mg base TB j x n ks perm sp := by
  obtain ⟨f, fd, ps, a, b, c⟩ := c.ex
  exact ⟨f, fd, ps, a, b.mono h, c⟩
def zCallK (n : Nat) (perm : List Nat) (r : ZC) (ts : ZA) : ZE := fun L S K => ts L S fun ws S1 => qAr (pick perm ws).length n (r (pick perm ws) S1 K)
theorem run_fnk0 {CX : CXT} {f : Addr} {fd : FuncData} {ps ks : List Str} {sp : Sp} {E : XK} {perm : List Nat} {pins : List (Addr × Obj)} {σ : L2.St} {H : Hp} {s : Shared} {Q : VK} {ws : List Value} {zs : List V} (F : FnOk X.prog X.w X.K X.mg X.base CX k f fd ps sp) (hr : Room k X.A)
    (hb : ∀ (s : Shared) (ws : List Value), (pick perm ws).length = ps.length → BindsTo s fd ⟨[], ks.zip ws⟩ (ps.zip (pick perm ws))) (hx : Passes CX X E)
    (I : Inv X pins σ H s) (rz : Vals zs ws) (h : sp (pick perm zs) H Q E) : wpAny (model X.prog X.w) X.A (call (.ref f) [] (ks.zip ws)) (EP X pins σ Q) X.xe s := by
  have r2 := vals_pick rz perm
  have hl : (pick perm ws).length = ps.length := by rw [← r2.length]; exact F.len _ _ _ _ h
  refine wpAny_call (codeAny_mono (F.run X.A X.stack s H ⟨[], ks.zip ws⟩ (pick perm ws) (pick perm zs) Q E hr I.env0 (hb s ws hl) r2 h) fun r s' hq => ?_)
  cases r with
  | error e => exact hx pins σ H s e s' I hq
  | ok fl =>
    cases fl with
    | ret u => exact I.after hq
    | next => exact False.elim hq
    | brk => exact False.elim hq
    | cont => exact False.elim hq
theorem pe_callK0 {CX : CXT} {f : Addr} {fd : FuncData} {ps ks : List Str} {sp : Sp} {E : XK} {tk : TA} {perm : List Nat} (F : FnOk X.prog X.w X.K X.mg X.base CX k f fd ps sp) (hr : Room k X.A) (hg : Gl X x) (hm : X.mg x = some (.ref f)) (hk : PySem.W.keepIn X.K (.ref f) = true)
    (hb : ∀ (s : Shared) (ws : List Value), (pick perm ws).length = ps.length → BindsTo s fd ⟨[], ks.zip ws⟩ (ps.zip (pick perm ws))) (hx : Passes CX X E)
    (hkw : PK X kws tk) (hall : (backToKw pos (keywordEach kws X.env)).all (·.1.isSome) = true := by rfl) (hks : (backToKw pos (keywordEach kws X.env)).filterMap (·.1) = ks := by rfl)
    (hdb : (x == ("__debug__" : Str)) = false := by decide)
    (hpl : ((backTo pos (starEach [] X.env)).any (·.1) || (backToKw pos (keywordEach kws X.env)).any (·.1.isNone)) = false := by rfl) :
    PE X (.Call (.Name x p) [] kws pos) (fun σ H Q => tk σ H fun zs H2 => sp (pick perm zs) H2 Q E) := by
  refine ⟨fun pins s σ H Q I h => ?_⟩
  refine wpAny_Call_Name_kw (ld_glob I hg hm ?_ hdb)
  refine PySem.W.callWith_KW0 (h₀ := X.base) I.ok.mod.kin hk hall (thn (hkw.run pos pins s σ H _ I h) fun ws s2 ⟨zs, H2, I2, rz, q2⟩ => ⟨I2.kIn, ?_⟩) hpl
  rw [hks]
  exact run_fnk0 F hr hb hx I2 rz q2
theorem z_calK {ks : List Str} {perm : List Nat} (C : CalK X.prog X.w X.K X.mg X.base TB k x n ks perm sp) (hr : Room k X.A) (hg : Gl X x) (hkw : ZPK TB X kws ts) (hall : (backToKw pos (keywordEach kws X.env)).all (·.1.isSome) = true := by rfl) (hks : (backToKw pos (keywordEach kws X.env)).filterMap (·.1) = ks := by rfl)
    (hdb : (x == ("__debug__" : Str)) = false := by decide)
    (hpl : ((backTo pos (starEach [] X.env)).any (·.1) || (backToKw pos (keywordEach kws X.env)).any (·.1.isNone)) = false := by rfl) : ZPE TB X (.Call (.Name x p) [] kws pos) (zCallK n perm sp ts) := by
  obtain ⟨f, fd, ps, rfl, F, hm, hk, hb⟩ := C.ex
  exact ⟨(pe_callK0 F hr hg hm hk hb pass0 hkw.pk hall hks hdb hpl).conv fun σ H Q ⟨L, S, A, Kc, s, l, h, hQ⟩ => ⟨L, S, A, _, s, l, h, fun vs H1 ⟨A1, S1, ws, ea1, eh1, s1, r1, h0⟩ => let ⟨hl, h1⟩ := qAr_ex h0
    ⟨by rw [← (r1.pick perm).length]; exact hl, A1, S1, pick perm ws, Kc, s1, r1.pick perm, h1, fun v H' q => hQ v H' (q.on ea1 eh1)⟩⟩⟩
/-- sorted(xs): ints, any number of them -/
@[irreducible] def qSorted : ZC := fun ws S K => Bx (match ws with
  | [.ref n] => ∃ ns : List Int, IsLst S n (ns.map W.int) ∧ ∀ ns' : List Int, ns'.Perm ns → ns'.Pairwise (· ≤ ·) → K (.ref S.length) (S ++ [.lst (ns'.map W.int)])
  | _ => False)
theorem reps_ints {K : PySem.W.Frag} {A : List Addr} {H : Hp} : ∀ ns : List Int, Reps K A H (ns.map W.int) (ns.map V.int)
  | [] => .nil
  | n :: ns => .cons (.int n) (reps_ints ns)
theorem zc_sorted {k : Nat} (hr : Room k X.A) (hc : X.calm = true) : ZOC TB X (.builtin "sorted") qSorted := by
  refine ⟨fun pins s σ H xs us Q I rv h => ?_⟩
  obtain ⟨A, S, ws, Kc, sk, r, h, hQ⟩ := h
  unfold qSorted at h
  replace h := h.ok
  split at h
  · obtain ⟨ns, e1, k⟩ := h
    cases r with
    | cons r1 r =>
      cases r1 with
      | ref h1 =>
        cases r
        obtain ⟨vs, hq, q1⟩ := sk.seq h1 e1
        have e := q1.ints
        subst e
        exact cr_sortedI pins s σ H _ us Q I rv ⟨_, ns, rfl, hq, fun ns' p hp hs hn => hQ _ _ (.lst sk (reps_ints ns') hn (k ns' hp hs))⟩
  · exact h.elim
end
end Z

set_option maxHeartbeats 2000000
/-! Z9: working with the readings: the store's extension, rules for simp. -/
namespace Z
open PySem PySem.Spec PyProof.Rows L2
/-- all cells but those of ms stay as they were -/
def Keep (ms : List Nat) (S S' : Store) : Prop := ∀ n o, n ∉ ms → S[n]? = some o → S'[n]? = some o
abbrev Ext (S S' : Store) : Prop := Keep [] S S'
theorem Keep.refl (ms : List Nat) (S : Store) : Keep ms S S := fun _ _ _ h => h
theorem Keep.trans {ms : List Nat} {S S1 S2 : Store} (a : Keep ms S S1) (b : Keep ms S1 S2) : Keep ms S S2 := fun n o h e => b n o h (a n o h e)
theorem Keep.mono {ms ms' : List Nat} {S S1 : Store} (a : Keep ms S S1) (h : ∀ n ∈ ms, n ∈ ms') : Keep ms' S S1 := fun n o hn e => a n o (fun z => hn (h n z)) e
theorem Ext.keep {ms : List Nat} {S S1 : Store} (a : Ext S S1) : Keep ms S S1 := fun n o _ e => a n o (by simp) e
theorem Ext.get {S S1 : Store} (a : Ext S S1) {n : Nat} {o : O} (e : S[n]? = some o) : S1[n]? = some o := a n o (by simp) e
theorem Keep.app (ms : List Nat) (S T : Store) : Keep ms S (S ++ T) := fun n o _ e => by
  rw [List.getElem?_append_left (List.getElem?_eq_some_iff.mp e).1]; exact e
theorem Keep.set (S : Store) (n : Nat) (o : O) : Keep [n] S (S.set n o) := fun m u hm e => by
  rw [List.getElem?_set_ne (by simp at hm; omega)]; exact e
theorem Keep.lt {ms : List Nat} {S S1 : Store} (a : Keep ms S S1) {n : Nat} (h : n ∉ ms) (hl : n < S.length) : n < S1.length :=
  (List.getElem?_eq_some_iff.mp (a n _ h (List.getElem?_eq_getElem hl))).1
theorem Keep.lst {ms : List Nat} {S S1 : Store} (a : Keep ms S S1) {n : Nat} {xs : List W} (hn : n ∉ ms) (h : IsLst S n xs) : IsLst S1 n xs := isL.mpr ((isL.mp h).elim (fun e => .inl (a n _ hn e)) fun e => .inr (a n _ hn e))
theorem Ext.lst {S S1 : Store} (a : Ext S S1) {n : Nat} {xs : List W} (h : IsLst S n xs) : IsLst S1 n xs := Keep.lst a (by simp) h
theorem getL_of {S : Store} {n : Nat} {xs : List W} (h : S[n]? = some (.lst xs)) : getL S n = some xs := isL.mpr (.inl h)
/-! the store grown by written cells -/
@[simp] theorem app_get (S T : Store) (k : Nat) : (S ++ T)[S.length + k]? = T[k]? := by rw [List.getElem?_append_right (by omega)]; congr 1; omega
@[simp] theorem app_get0 (S T : Store) : (S ++ T)[S.length]? = T[0]? := app_get S T 0
@[simp] theorem app_set (S T : Store) (k : Nat) (o : O) : (S ++ T).set (S.length + k) o = S ++ T.set k o := by rw [List.set_append_right _ _ (by omega)]; congr 2; omega
@[simp] theorem app_set0 (S T : Store) (o : O) : (S ++ T).set S.length o = S ++ T.set 0 o := app_set S T 0 o
theorem getL_get {S T : Store} {n m : Nat} (h : S[n]? = T[m]?) : getL S n = getL T m := by unfold getL; rw [h]
@[simp] theorem getL_app (S T : Store) (k : Nat) : getL (S ++ T) (S.length + k) = getL T k := getL_get (app_get S T k)
@[simp] theorem getL_app0 (S T : Store) : getL (S ++ T) S.length = getL T 0 := getL_get (app_get0 S T)
@[simp] theorem getL_zero (xs : List W) (T : Store) : getL (.lst xs :: T) 0 = some xs := rfl
@[simp] theorem getL_succ (o : O) (T : Store) (k : Nat) : getL (o :: T) (k + 1) = getL T k := rfl
theorem getL_set_ne {S : Store} {n m : Nat} {o : O} (h : n ≠ m) : getL (S.set n o) m = getL S m := getL_get (List.getElem?_set_ne h)
theorem getL_app1 (S : Store) (o : O) (T : Store) (xs : List W) : getL (S ++ o :: .lst xs :: T) (S.length + 1) = some xs := getL_app S _ 1
theorem getL_app00 (S : Store) (T : Store) (xs : List W) : getL (S ++ .lst xs :: T) S.length = some xs := getL_app0 S _
theorem getL_set_self {S : Store} {n : Nat} {xs : List W} (h : n < S.length) : getL (S.set n (.lst xs)) n = some xs := getL_of (List.getElem?_set_self h)
theorem lt_of_get {S : Store} {n : Nat} {o : O} (h : S[n]? = some o) : n < S.length := (List.getElem?_eq_some_iff.mp h).1
theorem app_l {S T : Store} {n : Nat} {o : O} (h : S[n]? = some o) : (S ++ T)[n]? = some o := by rw [List.getElem?_append_left (lt_of_get h)]; exact h
theorem getL_app_l {S T : Store} {n : Nat} {xs : List W} (h : getL S n = some xs) : getL (S ++ T) n = some xs := by
  rcases isL.mp h with e | e
  · exact isL.mpr (.inl (app_l e))
  · exact isL.mpr (.inr (app_l e))
theorem set_ne' {S : Store} {n m : Nat} {o u : O} (h : n ≠ m) (e : S[m]? = some u) : (S.set n o)[m]? = some u := by rw [List.getElem?_set_ne h]; exact e
theorem getL_set_ne' {S : Store} {n m : Nat} {o : O} {xs : List W} (h : n ≠ m) (e : getL S m = some xs) : getL (S.set n o) m = some xs := by rw [getL_set_ne h]; exact e
theorem Keep.app_r {ms : List Nat} {S S1 T : Store} (h : Keep ms S S1) : Keep ms S (S1 ++ T) := h.trans (Keep.app _ _ _)
theorem Keep.set_in {ms : List Nat} {S S1 : Store} {n : Nat} {o : O} (hn : n ∈ ms) (h : Keep ms S S1) : Keep ms S (S1.set n o) := fun m u hm e => by
  rw [List.getElem?_set_ne (fun z : n = m => hm (by rw [← z]; exact hn))]; exact h m u hm e
theorem Keep.set_new {ms : List Nat} {S S1 : Store} {n : Nat} {o : O} (hn : S.length ≤ n) (h : Keep ms S S1) : Keep ms S (S1.set n o) := fun m u hm e => by
  have := lt_of_get e
  rw [List.getElem?_set_ne (by omega)]; exact h m u hm e
theorem Keep.len {ms : List Nat} {S S1 : Store} (h : Keep ms S S1) (hm : ∀ m ∈ ms, m < S1.length) : S.length ≤ S1.length := by
  by_cases h0 : S.length = 0
  · omega
  · by_cases hi : S.length - 1 ∈ ms
    · have := hm _ hi; omega
    · have := h.lt hi (by omega); omega
theorem cut_to {α : Type} (xs : List α) (k : Nat) : cut xs none (some (k : Int)) = xs.take k := by
  unfold cut
  rw [HT.sIx_none, HT.sIx_nat, List.drop_zero, Nat.sub_zero, List.take_eq_take_iff]
  omega
theorem cut_from {α : Type} (xs : List α) (k : Nat) : cut xs (some (k : Int)) none = xs.drop k := by
  unfold cut
  rw [HT.sIx_none, HT.sIx_nat]
  by_cases h : k ≤ xs.length
  · rw [Nat.min_eq_left h, List.take_of_length_le (by rw [List.length_drop]; omega)]
  · rw [Nat.min_eq_right (by omega), Nat.sub_self, List.take_zero, List.drop_eq_nil_of_le (by omega)]
theorem cut_m1 {α : Type} (xs : List α) : cut xs none (some (-1)) = xs.dropLast := by
  unfold cut
  rw [HT.sIx_none, List.drop_zero, Nat.sub_zero, List.dropLast_eq_take]
  congr 1
  unfold HT.sIx
  simp
  omega
/-! subscripts by written numbers -/
theorem atI_cast {α : Type} (xs : List α) (k : Nat) : atI xs (k : Int) = xs[k]? := by
  unfold atI ixN
  rw [if_pos (by omega)]
  by_cases h : k < xs.length
  · rw [if_pos (by omega)]; simp
  · rw [if_neg (by omega), List.getElem?_eq_none (by omega)]; rfl
@[simp] theorem atI_lit {α : Type} (xs : List α) (k : Nat) : atI xs (no_index (OfNat.ofNat k : Int)) = xs[k]? := atI_cast xs k
theorem atI_neg {α : Type} (xs : List α) (k : Nat) (h : k < xs.length) : atI xs (-((k : Int) + 1)) = xs[xs.length - 1 - k]? := by
  unfold atI ixN
  rw [if_neg (by omega), if_pos (by omega)]
  show xs[_]? = _
  congr 1
  omega
theorem atI_m1 {α : Type} (xs : List α) : atI xs (-1) = xs.getLast? := by
  cases xs with
  | nil => rfl
  | cons x xs =>
    have := atI_neg (x :: xs) 0 (by simp)
    rw [List.getLast?_eq_getElem?]
    exact this
theorem atI_ints {ns : List Int} {p : Int} (h0 : 0 ≤ p) (h1 : p < ns.length) : atI (ns.map W.int) p = some (.int (ns.getD p.toNat 0)) := by
  obtain ⟨k, rfl⟩ : ∃ k : Nat, p = (k : Int) := ⟨p.toNat, by omega⟩
  have h2 : k < ns.length := by omega
  rw [atI_cast, List.getElem?_map, List.getElem?_eq_getElem h2]
  simp [h2]
@[simp] theorem ixN_lit (n : Nat) (k : Nat) : ixN n (no_index (OfNat.ofNat k : Int)) = if k < n then some k else none := by
  show ixN n (k : Int) = _
  unfold ixN
  rw [if_pos (by omega)]
  by_cases h : k < n
  · rw [if_pos (by omega), if_pos h]; simp
  · rw [if_neg (by omega), if_neg h]
/-! == -/
theorem qEq_scal {neg : Bool} {x y : W} {d e : PyData} {b : Bool} {S : Store} {K : WK} (h1 : DataOf S x d) (h2 : DataOf S y e) (s1 : SeqAt.shaped d = true) (s2 : SeqAt.shaped e = true) (q : PyData.eqv d e = b) (h : K (.bl (neg ^^ b)) S) : qEq neg x y S K := by
  unfold qEq
  refine ⟨?_⟩
  exact ⟨d, e, h1, h2, s1, s2, by rw [q]; exact h⟩
/-! numbers -/
theorem MulOk.r {i j : Int} (h1 : -18446744073709551616 < j) (h2 : j < 18446744073709551616) : MulOk i j := .inr (.inl ⟨h1, h2⟩)
theorem MulOk.l {i j : Int} (h1 : -18446744073709551616 < i) (h2 : i < 18446744073709551616) : MulOk i j := .inl ⟨h1, h2⟩
theorem DivOk.small {i j : Int} (h1 : 0 < j) (h2 : j < 18446744073709551616) : DivOk i j := by
  refine ⟨h1, ?_⟩
  have h3 : j.natAbs < 2 ^ 64 := by omega
  have : j.natAbs.log2 < 64 := (Nat.log2_lt (by omega)).mpr h3
  omega


theorem PowOk.lit {i j : Int} (h1 : 0 ≤ j) (h2 : j ≤ 1000000) (h3 : i.natAbs < 2 ^ 64) : PowOk i j := ⟨h1, h2, h3⟩
/-- the turn's own names forgotten -/
def qWipe (L : Loc') : List Nat → (Loc' → Prop) → Prop
  | [], k => k L
  | v :: vs, k => qWipe L vs fun L' => qLet v none L' k
theorem qWipe_eq {L : Loc'} {vs : List Nat} : ∀ {k : Loc' → Prop}, qWipe L vs k ↔ k (wipeL L vs) := by
  induction vs with
  | nil => intro k; exact Iff.rfl
  | cons v vs ih => intro k; exact ih.trans qLet_iff
/-! step by step: the readings that are not reckoned out by whnf -/
section
variable {L : Loc'} {S T : Store} {D : ZEnds} {K : WK} {tt : ZT} {ta : ZE} {g : ZTG} {w x y : W} {ws xs ys : List W} {i j : Int} {n m k : Nat} {A B : Prop} {b : Bool} {o : O}
theorem s_sz (h : k ≤ 16777216) : k ≤ sizeLine := by rw [sizeLine_eq]; exact h
theorem s_szl (h : k < 16777216) : k < sizeLine := by rw [sizeLine_eq]; exact h
theorem i_t (e : b = true) (h : A) : qIf b A B := by subst e; rw [qIf_t]; exact h
theorem i_f (e : b = false) (h : B) : qIf b A B := by subst e; rw [qIf_f]; exact h
theorem i_b (h1 : b = true → A) (h2 : b = false → B) : qIf b A B := by
  cases b
  · rw [qIf_f]; exact h2 rfl
  · rw [qIf_t]; exact h1 rfl
theorem i_d {p : Prop} {dp : Decidable p} (h1 : p → A) (h2 : ¬ p → B) : qIf (decide p) A B := i_b (fun h => h1 (of_decide_eq_true h)) fun h => h2 (of_decide_eq_false h)
theorem i_n {p : Prop} {dp : Decidable p} (h1 : ¬ p → A) (h2 : p → B) : qIf (!decide p) A B := i_b (fun h => h1 (of_decide_eq_false (by simpa using h))) fun h => h2 (by simpa using h)
theorem i_dt {p : Prop} {dp : Decidable p} (hp : p) (h : A) : qIf (decide p) A B := i_t (decide_eq_true hp) h
theorem i_df {p : Prop} {dp : Decidable p} (hp : ¬ p) (h : B) : qIf (decide p) A B := i_f (decide_eq_false hp) h
theorem i_nt {p : Prop} {dp : Decidable p} (hp : ¬ p) (h : A) : qIf (!decide p) A B := i_t (by simp [hp]) h
theorem i_nf {p : Prop} {dp : Decidable p} (hp : p) (h : B) : qIf (!decide p) A B := i_f (by simp [hp]) h
theorem shaped_str {s : Str} (h : PyData.strOk s = true) : SeqAt.shaped (.str s) = true := by
  unfold SeqAt.shaped
  rw [PyData.canLay0, h]
  rfl
theorem q_eq_str {s t : Str} (hs : PyData.strOk s = true) (ht : PyData.strOk t = true) (h : K (.bl (decide (s = t))) S) : qEq false (.str s) (.str t) S K := qEq_scal (.str s) (.str t) (shaped_str hs) (shaped_str ht) (by rw [PyData.eqv, Bool.beq_eq_decide_eq]) (by rw [Bool.false_xor]; exact h)
theorem q_ne_str {s t : Str} (hs : PyData.strOk s = true) (ht : PyData.strOk t = true) (h : K (.bl (!decide (s = t))) S) : qEq true (.str s) (.str t) S K := qEq_scal (.str s) (.str t) (shaped_str hs) (shaped_str ht) (by rw [PyData.eqv, Bool.beq_eq_decide_eq]) (by rw [Bool.true_xor]; exact h)
/-! operators -/
theorem q_eq_int (h : K (.bl (decide (i = j))) S) : qEq false (.int i) (.int j) S K := qEq_scal (.int i) (.int j) rfl rfl (by rw [PyData.eqv, Bool.beq_eq_decide_eq]) (by rw [Bool.false_xor]; exact h)
theorem q_ne_int (h : K (.bl (!decide (i = j))) S) : qEq true (.int i) (.int j) S K := qEq_scal (.int i) (.int j) rfl rfl (by rw [PyData.eqv, Bool.beq_eq_decide_eq]) (by rw [Bool.true_xor]; exact h)
theorem q_eq_bl {b c : Bool} (h : K (.bl (decide (b = c))) S) : qEq false (.bl b) (.bl c) S K := qEq_scal (.bl b) (.bl c) rfl rfl (by rw [PyData.eqv, Bool.beq_eq_decide_eq]) (by rw [Bool.false_xor]; exact h)
theorem q_ne_bl {b c : Bool} (h : K (.bl (!decide (b = c))) S) : qEq true (.bl b) (.bl c) S K := qEq_scal (.bl b) (.bl c) rfl rfl (by rw [PyData.eqv, Bool.beq_eq_decide_eq]) (by rw [Bool.true_xor]; exact h)
theorem q_is_non (h : K (.bl (isNon x)) S) : qIsN false x .non S K := by unfold qIsN; exact ⟨⟨rfl, by rw [Bool.false_xor]; exact h⟩⟩
theorem q_isnot_non (h : K (.bl (!isNon x)) S) : qIsN true x .non S K := by unfold qIsN; exact ⟨⟨rfl, by rw [Bool.true_xor]; exact h⟩⟩
theorem q_ix_tup (e : atI xs i = some w) (h : K w S) : qIx (.tup xs) (.int i) S K := by unfold qIx; exact ⟨⟨w, e, h⟩⟩
theorem q_ix_ref (e : IsLst S n xs) (e2 : atI xs i = some w) (h : K w S) : qIx (.ref n) (.int i) S K := by unfold qIx; exact ⟨⟨xs, e, w, e2, h⟩⟩
theorem q_len_tup (h : K (.int xs.length) S) : qLen [.tup xs] S K := by unfold qLen; exact ⟨h⟩
theorem q_len_ref (e : IsLst S n xs) (h : K (.int xs.length) S) : qLen [.ref n] S K := by unfold qLen; exact ⟨⟨xs, e, h⟩⟩
theorem q_tup_tup (h : K (.tup xs) S) : qTup [.tup xs] S K := by unfold qTup; exact ⟨h⟩
theorem q_tup_ref (e : IsLst S n xs) (h : K (.tup xs) S) : qTup [.ref n] S K := by unfold qTup; exact ⟨⟨xs, e, h⟩⟩
theorem q_list_tup (h : K (.ref S.length) (S ++ [.lst xs])) : qList [.tup xs] S K := by unfold qList; exact ⟨h⟩
theorem q_list_ref (e : IsLst S n xs) (h : K (.ref S.length) (S ++ [.lst xs])) : qList [.ref n] S K := by unfold qList; exact ⟨⟨xs, e, h⟩⟩
theorem q_isi {U nm : String} (e1 : x.tyName S = some nm) (e2 : kitB nm U = some b) (h : K (.bl b) S) : qIsi [x, .ty U] S K := by unfold qIsi; exact ⟨⟨nm, b, e1, e2, h⟩⟩
theorem q_sl_tup {lo hi : Option Int} (h : K (.tup (cut xs lo hi)) S) : qSl (.tup xs) lo hi S K := by unfold qSl; exact ⟨h⟩
theorem q_sl_ref {lo hi : Option Int} (e : IsLst S n xs) (h : K (.ref S.length) (S ++ [.lst (cut xs lo hi)])) : qSl (.ref n) lo hi S K := by unfold qSl; exact ⟨⟨xs, e, h⟩⟩
theorem s_isml (e : IsLst S n xs) (h : A) : onLst (.ref n) S A := ⟨⟨n, xs, rfl, e⟩, h⟩
theorem q_append (e : S[n]? = some (.lst xs)) (hz : xs.length < sizeLine) (h : K .non (S.set n (.lst (xs ++ [w])))) : qAppend (.ref n) [w] S K := by unfold qAppend; exact ⟨⟨xs, e, hz, h⟩⟩
theorem q_append2 (hl : n < S.length) (hz : xs.length < sizeLine) (h : K .non (S.set n (.lst (xs ++ [w])))) : qAppend (.ref n) [w] (S.set n (.lst xs)) K := q_append (List.getElem?_set_self hl) hz (by rw [List.set_set]; exact h)
theorem q_append0 (hz : xs.length < sizeLine) (h : K .non (S ++ .lst (xs ++ [w]) :: T)) : qAppend (.ref S.length) [w] (S ++ .lst xs :: T) K := q_append (by rw [app_get0]; rfl) hz (by rw [app_set0]; exact h)
theorem q_append1 (hz : xs.length < sizeLine) (h : K .non (S ++ o :: .lst (xs ++ [w]) :: T)) : qAppend (.ref (S.length + 1)) [w] (S ++ o :: .lst xs :: T) K := q_append (by rw [app_get]; rfl) hz (by rw [app_set]; exact h)
theorem q_cat (e1 : S[n]? = some (.lst xs)) (e2 : S[m]? = some (.lst ys)) (hz : xs.length + ys.length ≤ sizeLine) (h : K (.ref S.length) (S ++ [.lst (xs ++ ys)])) : qCat n m S K := by unfold qCat; exact ⟨⟨xs, ys, e1, e2, hz, h⟩⟩
theorem q_setL {KS : Store → Prop} (e : S[n]? = some (.lst xs)) (e2 : ixN xs.length i = some m) (h : KS (S.set n (.lst (xs.set m w)))) : qSetL (.ref n) (.int i) w S KS := by unfold qSetL; exact ⟨⟨xs, m, e, e2, h⟩⟩
theorem q_setL2 {KS : Store → Prop} (hl : n < S.length) (e2 : ixN xs.length i = some m) (h : KS (S.set n (.lst (xs.set m w)))) : qSetL (.ref n) (.int i) w (S.set n (.lst xs)) KS := q_setL (List.getElem?_set_self hl) e2 (by rw [List.set_set]; exact h)
theorem s_seqI_tup {KI : ZIt → Store → Prop} (h : KI ⟨xs, fun _ => True⟩ S) : qSeqI KI (.tup xs) S := by unfold qSeqI; exact ⟨.inl ⟨xs, rfl, h⟩⟩
theorem s_seqI_ref {KI : ZIt → Store → Prop} (e : IsLst S n xs) (h : KI ⟨xs, fun S' => IsLst S' n xs⟩ S) : qSeqI KI (.ref n) S := by unfold qSeqI; exact ⟨.inr ⟨n, xs, rfl, e, h⟩⟩
/-- a for by its invariant -/
theorem forI {its : List W} {G : Store → Prop} {tb : ZS} (P : Nat → Loc' → Store → Prop) (h0 : P 0 L S) (hG : ∀ i L S, P i L S → G S)
    (turn : ∀ (i : Nat) (w : W) (L : Loc') (S : Store), its[i]? = some w → P i L S → g w L S fun L' S' => tb ⟨P (i + 1), D.rt, D.nx, P (i + 1)⟩ L' S') (done : ∀ L S, P its.length L S → D.nx L S) : FlEnd ⟨its, G⟩ g tb D L S := by
  unfold FlEnd
  refine ⟨?_⟩
  exact ⟨P, h0, fun i w L S e p => ⟨hG i L S p, turn i w L S e p⟩, fun L S p => ⟨hG _ L S p, done L S p⟩⟩
/-- a while by its invariant and a number that falls -/
theorem whI {c : ZT} {tb : ZS} (P : Nat → Loc' → Store → Prop) (m0 : Nat) (h0 : P m0 L S) (turn : ∀ m L S, P m L S → c L S fun b S1 => qIf b (tb ⟨fun L' S' => ∃ m', m' < m ∧ P m' L' S', D.rt, D.nx, fun L' S' => ∃ m', m' < m ∧ P m' L' S'⟩ L S1) (D.nx L S1)) : WhEnd c tb D L S := by
  unfold WhEnd
  refine ⟨?_⟩
  exact ⟨P, ⟨m0, h0⟩, turn⟩
end
section
variable {L : Loc'} {S1 : Store} {K : WK} {te : ZE} {tt : ZT} {g : ZTG} {vs : List Nat} {its : List W} {G : Store → Prop}
/-- by what holds of the list made so far and of the store: ms the cells that a turn may change -/
theorem lcI (ms : List Nat) (I : Store → Prop) (Gd : Nat → List W → Prop) (hD : S1.length ∉ ms) (hm : ∀ m ∈ ms, m < S1.length) (hI : ∀ S o, I S → S1.length < S.length → I (S.set S1.length o)) (hI0 : I (S1 ++ [.lst []]))
    (hG : ∀ S, Keep ms S1 S → G S) (h0 : Gd 0 []) (hsz : ∀ i acc, i < its.length → Gd i acc → acc.length < sizeLine)
    (turn : ∀ (i : Nat) (acc : List W) (w : W) (S2 : Store) (Kt : WK) (Kf : Store → Prop), its[i]? = some w → Gd i acc → I S2 → Keep ms S1 S2 → S1.length < S2.length →
      (∀ y S5, Keep ms S2 S5 → I S5 → Gd (i + 1) (acc ++ [y]) → Kt y S5) → (∀ S4, Keep ms S2 S4 → I S4 → Gd (i + 1) acc → Kf S4) →
      qWipe L vs fun L0 => g w L0 S2 fun L' S3 => tt L' S3 fun b S4 => qIf b (te L' S4 Kt) (Kf S4))
    (done : ∀ acc S2, Gd its.length acc → I S2 → Keep ms S1 S2 → S2[S1.length]? = some (.lst acc) → K (.ref S1.length) S2) : LcEnd ⟨its, G⟩ g tt te vs L S1 K := by
  unfold LcEnd
  refine ⟨?_⟩
  refine ⟨fun i acc S2 => Gd i acc ∧ I S2 ∧ Keep ms S1 S2 ∧ S2[S1.length]? = some (.lst acc), ⟨h0, hI0, Keep.app _ _ _, by simp⟩, fun i acc w S2 hw ⟨a, b, c, d⟩ => ?_, fun acc S2 ⟨a, b, c, d⟩ => ⟨hG S2 c, done acc S2 a b c d⟩⟩
  have hlt : S1.length < S2.length := lt_of_get d
  have hil := (List.getElem?_eq_some_iff.mp hw).1
  refine ⟨hG S2 c, d, qWipe_eq.mp (turn i acc w S2 _ _ hw a b c hlt (fun y S5 k1 k2 k3 => ?_) fun S4 k1 k2 k3 => ?_)⟩
  · have d5 := k1 _ _ hD d
    unfold qPush
    refine ⟨d5, hsz i acc hil a, k3, hI _ _ k2 (lt_of_get d5), fun n o hn e => ?_, List.getElem?_set_self (lt_of_get d5)⟩
    have hne : S1.length ≠ n := Nat.ne_of_gt (lt_of_get e)
    rw [List.getElem?_set_ne hne]
    exact (c.trans k1) n o hn e
  · exact ⟨k3, k2, c.trans k1, k1 _ _ hD d⟩
/-- a pure element, no test: f of each item -/
theorem lcM (f : Nat → W → W) (hG : ∀ S, Ext S1 S → G S) (hsz : its.length ≤ sizeLine)
    (turn : ∀ (i : Nat) (w : W) (S2 : Store) (Kt : WK) (Kf : Store → Prop), its[i]? = some w → Ext S1 S2 → (∀ S5, Ext S2 S5 → Kt (f i w) S5) → qWipe L vs fun L0 => g w L0 S2 fun L' S3 => tt L' S3 fun b S4 => qIf b (te L' S4 Kt) (Kf S4))
    (done : ∀ S2, Ext S1 S2 → S2[S1.length]? = some (.lst (its.mapIdx f)) → K (.ref S1.length) S2) : LcEnd ⟨its, G⟩ g tt te vs L S1 K := by
  refine lcI [] (fun _ => True) (fun i acc => acc = (its.take i).mapIdx f) (by simp) (by simp) (fun _ _ _ _ => trivial) trivial hG rfl (fun i acc hi e => ?_) (fun i acc w S2 Kt Kf hw e _ k _ hK _ => turn i w S2 Kt Kf hw k fun S5 k5 => hK _ _ k5 trivial ?_) fun acc S2 e _ k hS => done S2 k ?_
  · subst e
    rw [List.length_mapIdx, List.length_take]
    omega
  · subst e
    have hi := (List.getElem?_eq_some_iff.mp hw).1
    rw [List.take_add_one, hw, Option.toList_some, List.mapIdx_append, List.length_take, Nat.min_eq_left (by omega)]
    simp
  · subst e
    rw [List.take_length] at hS
    exact hS
/-- a pure element with a test: f of each item, none where the test refuses -/
theorem lcF (f : W → Option W) (hG : ∀ S, Ext S1 S → G S) (hsz : its.length ≤ sizeLine)
    (turn : ∀ (i : Nat) (w : W) (S2 : Store) (Kt : WK) (Kf : Store → Prop), its[i]? = some w → Ext S1 S2 → (∀ y S5, f w = some y → Ext S2 S5 → Kt y S5) → (∀ S4, f w = none → Ext S2 S4 → Kf S4) → qWipe L vs fun L0 => g w L0 S2 fun L' S3 => tt L' S3 fun b S4 => qIf b (te L' S4 Kt) (Kf S4))
    (done : ∀ S2, Ext S1 S2 → S2[S1.length]? = some (.lst (its.filterMap f)) → K (.ref S1.length) S2) : LcEnd ⟨its, G⟩ g tt te vs L S1 K := by
  refine lcI [] (fun _ => True) (fun i acc => acc = (its.take i).filterMap f) (by simp) (by simp) (fun _ _ _ _ => trivial) trivial hG rfl (fun i acc hi e => ?_) (fun i acc w S2 Kt Kf hw e _ k _ hK hK' => turn i w S2 Kt Kf hw k (fun y S5 ey k5 => hK _ _ k5 trivial ?_) fun S4 ey k4 => hK' _ k4 trivial ?_) fun acc S2 e _ k hS => done S2 k ?_
  · subst e
    have := List.length_filterMap_le f (its.take i)
    rw [List.length_take] at this
    omega
  · subst e
    rw [List.take_add_one, hw, Option.toList_some, List.filterMap_append, List.filterMap_cons_some ey, List.filterMap_nil]
  · subst e
    rw [List.take_add_one, hw, Option.toList_some, List.filterMap_append, List.filterMap_cons_none ey, List.filterMap_nil, List.append_nil]
  · subst e
    rw [List.take_length] at hS
    exact hS
end
/-! a local is written: by its place -/
section
variable {a0 a1 a2 a3 a4 a5 a6 a7 a8 a9 a10 a11 a12 a13 a14 a15 a16 a17 a18 a19 a20 a21 a22 a23 a24 a25 a26 a27 a28 a29 a30 a31 a32 a33 a34 a35 a36 a37 a38 a39 x9 w9 : Option W} {L9 : Loc'} {k9 : Loc' → Prop}
theorem q_let0 (h : k9 (w9 :: L9)) : qLet 0 w9 (x9 :: L9) k9 := qLet_iff.mpr h
theorem q_let1 (h : k9 (a0 :: w9 :: L9)) : qLet 1 w9 (a0 :: x9 :: L9) k9 := qLet_iff.mpr h
theorem q_let2 (h : k9 (a0 :: a1 :: w9 :: L9)) : qLet 2 w9 (a0 :: a1 :: x9 :: L9) k9 := qLet_iff.mpr h
theorem q_let3 (h : k9 (a0 :: a1 :: a2 :: w9 :: L9)) : qLet 3 w9 (a0 :: a1 :: a2 :: x9 :: L9) k9 := qLet_iff.mpr h
theorem q_let4 (h : k9 (a0 :: a1 :: a2 :: a3 :: w9 :: L9)) : qLet 4 w9 (a0 :: a1 :: a2 :: a3 :: x9 :: L9) k9 := qLet_iff.mpr h
theorem q_let5 (h : k9 (a0 :: a1 :: a2 :: a3 :: a4 :: w9 :: L9)) : qLet 5 w9 (a0 :: a1 :: a2 :: a3 :: a4 :: x9 :: L9) k9 := qLet_iff.mpr h
theorem q_let6 (h : k9 (a0 :: a1 :: a2 :: a3 :: a4 :: a5 :: w9 :: L9)) : qLet 6 w9 (a0 :: a1 :: a2 :: a3 :: a4 :: a5 :: x9 :: L9) k9 := qLet_iff.mpr h
theorem q_let7 (h : k9 (a0 :: a1 :: a2 :: a3 :: a4 :: a5 :: a6 :: w9 :: L9)) : qLet 7 w9 (a0 :: a1 :: a2 :: a3 :: a4 :: a5 :: a6 :: x9 :: L9) k9 := qLet_iff.mpr h
theorem q_let8 (h : k9 (a0 :: a1 :: a2 :: a3 :: a4 :: a5 :: a6 :: a7 :: w9 :: L9)) : qLet 8 w9 (a0 :: a1 :: a2 :: a3 :: a4 :: a5 :: a6 :: a7 :: x9 :: L9) k9 := qLet_iff.mpr h
theorem q_let9 (h : k9 (a0 :: a1 :: a2 :: a3 :: a4 :: a5 :: a6 :: a7 :: a8 :: w9 :: L9)) : qLet 9 w9 (a0 :: a1 :: a2 :: a3 :: a4 :: a5 :: a6 :: a7 :: a8 :: x9 :: L9) k9 := qLet_iff.mpr h
theorem q_let10 (h : k9 (a0 :: a1 :: a2 :: a3 :: a4 :: a5 :: a6 :: a7 :: a8 :: a9 :: w9 :: L9)) : qLet 10 w9 (a0 :: a1 :: a2 :: a3 :: a4 :: a5 :: a6 :: a7 :: a8 :: a9 :: x9 :: L9) k9 := qLet_iff.mpr h
theorem q_let11 (h : k9 (a0 :: a1 :: a2 :: a3 :: a4 :: a5 :: a6 :: a7 :: a8 :: a9 :: a10 :: w9 :: L9)) : qLet 11 w9 (a0 :: a1 :: a2 :: a3 :: a4 :: a5 :: a6 :: a7 :: a8 :: a9 :: a10 :: x9 :: L9) k9 := qLet_iff.mpr h
theorem q_let12 (h : k9 (a0 :: a1 :: a2 :: a3 :: a4 :: a5 :: a6 :: a7 :: a8 :: a9 :: a10 :: a11 :: w9 :: L9)) : qLet 12 w9 (a0 :: a1 :: a2 :: a3 :: a4 :: a5 :: a6 :: a7 :: a8 :: a9 :: a10 :: a11 :: x9 :: L9) k9 := qLet_iff.mpr h
theorem q_let13 (h : k9 (a0 :: a1 :: a2 :: a3 :: a4 :: a5 :: a6 :: a7 :: a8 :: a9 :: a10 :: a11 :: a12 :: w9 :: L9)) : qLet 13 w9 (a0 :: a1 :: a2 :: a3 :: a4 :: a5 :: a6 :: a7 :: a8 :: a9 :: a10 :: a11 :: a12 :: x9 :: L9) k9 := qLet_iff.mpr h
theorem q_let14 (h : k9 (a0 :: a1 :: a2 :: a3 :: a4 :: a5 :: a6 :: a7 :: a8 :: a9 :: a10 :: a11 :: a12 :: a13 :: w9 :: L9)) : qLet 14 w9 (a0 :: a1 :: a2 :: a3 :: a4 :: a5 :: a6 :: a7 :: a8 :: a9 :: a10 :: a11 :: a12 :: a13 :: x9 :: L9) k9 := qLet_iff.mpr h
theorem q_let15 (h : k9 (a0 :: a1 :: a2 :: a3 :: a4 :: a5 :: a6 :: a7 :: a8 :: a9 :: a10 :: a11 :: a12 :: a13 :: a14 :: w9 :: L9)) : qLet 15 w9 (a0 :: a1 :: a2 :: a3 :: a4 :: a5 :: a6 :: a7 :: a8 :: a9 :: a10 :: a11 :: a12 :: a13 :: a14 :: x9 :: L9) k9 := qLet_iff.mpr h
theorem q_let16 (h : k9 (a0 :: a1 :: a2 :: a3 :: a4 :: a5 :: a6 :: a7 :: a8 :: a9 :: a10 :: a11 :: a12 :: a13 :: a14 :: a15 :: w9 :: L9)) : qLet 16 w9 (a0 :: a1 :: a2 :: a3 :: a4 :: a5 :: a6 :: a7 :: a8 :: a9 :: a10 :: a11 :: a12 :: a13 :: a14 :: a15 :: x9 :: L9) k9 := qLet_iff.mpr h
theorem q_let17 (h : k9 (a0 :: a1 :: a2 :: a3 :: a4 :: a5 :: a6 :: a7 :: a8 :: a9 :: a10 :: a11 :: a12 :: a13 :: a14 :: a15 :: a16 :: w9 :: L9)) : qLet 17 w9 (a0 :: a1 :: a2 :: a3 :: a4 :: a5 :: a6 :: a7 :: a8 :: a9 :: a10 :: a11 :: a12 :: a13 :: a14 :: a15 :: a16 :: x9 :: L9) k9 := qLet_iff.mpr h
theorem q_let18 (h : k9 (a0 :: a1 :: a2 :: a3 :: a4 :: a5 :: a6 :: a7 :: a8 :: a9 :: a10 :: a11 :: a12 :: a13 :: a14 :: a15 :: a16 :: a17 :: w9 :: L9)) : qLet 18 w9 (a0 :: a1 :: a2 :: a3 :: a4 :: a5 :: a6 :: a7 :: a8 :: a9 :: a10 :: a11 :: a12 :: a13 :: a14 :: a15 :: a16 :: a17 :: x9 :: L9) k9 := qLet_iff.mpr h
theorem q_let19 (h : k9 (a0 :: a1 :: a2 :: a3 :: a4 :: a5 :: a6 :: a7 :: a8 :: a9 :: a10 :: a11 :: a12 :: a13 :: a14 :: a15 :: a16 :: a17 :: a18 :: w9 :: L9)) : qLet 19 w9 (a0 :: a1 :: a2 :: a3 :: a4 :: a5 :: a6 :: a7 :: a8 :: a9 :: a10 :: a11 :: a12 :: a13 :: a14 :: a15 :: a16 :: a17 :: a18 :: x9 :: L9) k9 := qLet_iff.mpr h
theorem q_let20 (h : k9 (a0 :: a1 :: a2 :: a3 :: a4 :: a5 :: a6 :: a7 :: a8 :: a9 :: a10 :: a11 :: a12 :: a13 :: a14 :: a15 :: a16 :: a17 :: a18 :: a19 :: w9 :: L9)) : qLet 20 w9 (a0 :: a1 :: a2 :: a3 :: a4 :: a5 :: a6 :: a7 :: a8 :: a9 :: a10 :: a11 :: a12 :: a13 :: a14 :: a15 :: a16 :: a17 :: a18 :: a19 :: x9 :: L9) k9 := qLet_iff.mpr h
theorem q_let21 (h : k9 (a0 :: a1 :: a2 :: a3 :: a4 :: a5 :: a6 :: a7 :: a8 :: a9 :: a10 :: a11 :: a12 :: a13 :: a14 :: a15 :: a16 :: a17 :: a18 :: a19 :: a20 :: w9 :: L9)) : qLet 21 w9 (a0 :: a1 :: a2 :: a3 :: a4 :: a5 :: a6 :: a7 :: a8 :: a9 :: a10 :: a11 :: a12 :: a13 :: a14 :: a15 :: a16 :: a17 :: a18 :: a19 :: a20 :: x9 :: L9) k9 := qLet_iff.mpr h
theorem q_let22 (h : k9 (a0 :: a1 :: a2 :: a3 :: a4 :: a5 :: a6 :: a7 :: a8 :: a9 :: a10 :: a11 :: a12 :: a13 :: a14 :: a15 :: a16 :: a17 :: a18 :: a19 :: a20 :: a21 :: w9 :: L9)) : qLet 22 w9 (a0 :: a1 :: a2 :: a3 :: a4 :: a5 :: a6 :: a7 :: a8 :: a9 :: a10 :: a11 :: a12 :: a13 :: a14 :: a15 :: a16 :: a17 :: a18 :: a19 :: a20 :: a21 :: x9 :: L9) k9 := qLet_iff.mpr h
theorem q_let23 (h : k9 (a0 :: a1 :: a2 :: a3 :: a4 :: a5 :: a6 :: a7 :: a8 :: a9 :: a10 :: a11 :: a12 :: a13 :: a14 :: a15 :: a16 :: a17 :: a18 :: a19 :: a20 :: a21 :: a22 :: w9 :: L9)) : qLet 23 w9 (a0 :: a1 :: a2 :: a3 :: a4 :: a5 :: a6 :: a7 :: a8 :: a9 :: a10 :: a11 :: a12 :: a13 :: a14 :: a15 :: a16 :: a17 :: a18 :: a19 :: a20 :: a21 :: a22 :: x9 :: L9) k9 := qLet_iff.mpr h
theorem q_let24 (h : k9 (a0 :: a1 :: a2 :: a3 :: a4 :: a5 :: a6 :: a7 :: a8 :: a9 :: a10 :: a11 :: a12 :: a13 :: a14 :: a15 :: a16 :: a17 :: a18 :: a19 :: a20 :: a21 :: a22 :: a23 :: w9 :: L9)) : qLet 24 w9 (a0 :: a1 :: a2 :: a3 :: a4 :: a5 :: a6 :: a7 :: a8 :: a9 :: a10 :: a11 :: a12 :: a13 :: a14 :: a15 :: a16 :: a17 :: a18 :: a19 :: a20 :: a21 :: a22 :: a23 :: x9 :: L9) k9 := qLet_iff.mpr h
theorem q_let25 (h : k9 (a0 :: a1 :: a2 :: a3 :: a4 :: a5 :: a6 :: a7 :: a8 :: a9 :: a10 :: a11 :: a12 :: a13 :: a14 :: a15 :: a16 :: a17 :: a18 :: a19 :: a20 :: a21 :: a22 :: a23 :: a24 :: w9 :: L9)) : qLet 25 w9 (a0 :: a1 :: a2 :: a3 :: a4 :: a5 :: a6 :: a7 :: a8 :: a9 :: a10 :: a11 :: a12 :: a13 :: a14 :: a15 :: a16 :: a17 :: a18 :: a19 :: a20 :: a21 :: a22 :: a23 :: a24 :: x9 :: L9) k9 := qLet_iff.mpr h
theorem q_let26 (h : k9 (a0 :: a1 :: a2 :: a3 :: a4 :: a5 :: a6 :: a7 :: a8 :: a9 :: a10 :: a11 :: a12 :: a13 :: a14 :: a15 :: a16 :: a17 :: a18 :: a19 :: a20 :: a21 :: a22 :: a23 :: a24 :: a25 :: w9 :: L9)) : qLet 26 w9 (a0 :: a1 :: a2 :: a3 :: a4 :: a5 :: a6 :: a7 :: a8 :: a9 :: a10 :: a11 :: a12 :: a13 :: a14 :: a15 :: a16 :: a17 :: a18 :: a19 :: a20 :: a21 :: a22 :: a23 :: a24 :: a25 :: x9 :: L9) k9 := qLet_iff.mpr h
theorem q_let27 (h : k9 (a0 :: a1 :: a2 :: a3 :: a4 :: a5 :: a6 :: a7 :: a8 :: a9 :: a10 :: a11 :: a12 :: a13 :: a14 :: a15 :: a16 :: a17 :: a18 :: a19 :: a20 :: a21 :: a22 :: a23 :: a24 :: a25 :: a26 :: w9 :: L9)) : qLet 27 w9 (a0 :: a1 :: a2 :: a3 :: a4 :: a5 :: a6 :: a7 :: a8 :: a9 :: a10 :: a11 :: a12 :: a13 :: a14 :: a15 :: a16 :: a17 :: a18 :: a19 :: a20 :: a21 :: a22 :: a23 :: a24 :: a25 :: a26 :: x9 :: L9) k9 := qLet_iff.mpr h
theorem q_let28 (h : k9 (a0 :: a1 :: a2 :: a3 :: a4 :: a5 :: a6 :: a7 :: a8 :: a9 :: a10 :: a11 :: a12 :: a13 :: a14 :: a15 :: a16 :: a17 :: a18 :: a19 :: a20 :: a21 :: a22 :: a23 :: a24 :: a25 :: a26 :: a27 :: w9 :: L9)) : qLet 28 w9 (a0 :: a1 :: a2 :: a3 :: a4 :: a5 :: a6 :: a7 :: a8 :: a9 :: a10 :: a11 :: a12 :: a13 :: a14 :: a15 :: a16 :: a17 :: a18 :: a19 :: a20 :: a21 :: a22 :: a23 :: a24 :: a25 :: a26 :: a27 :: x9 :: L9) k9 := qLet_iff.mpr h
theorem q_let29 (h : k9 (a0 :: a1 :: a2 :: a3 :: a4 :: a5 :: a6 :: a7 :: a8 :: a9 :: a10 :: a11 :: a12 :: a13 :: a14 :: a15 :: a16 :: a17 :: a18 :: a19 :: a20 :: a21 :: a22 :: a23 :: a24 :: a25 :: a26 :: a27 :: a28 :: w9 :: L9)) : qLet 29 w9 (a0 :: a1 :: a2 :: a3 :: a4 :: a5 :: a6 :: a7 :: a8 :: a9 :: a10 :: a11 :: a12 :: a13 :: a14 :: a15 :: a16 :: a17 :: a18 :: a19 :: a20 :: a21 :: a22 :: a23 :: a24 :: a25 :: a26 :: a27 :: a28 :: x9 :: L9) k9 := qLet_iff.mpr h
theorem q_let30 (h : k9 (a0 :: a1 :: a2 :: a3 :: a4 :: a5 :: a6 :: a7 :: a8 :: a9 :: a10 :: a11 :: a12 :: a13 :: a14 :: a15 :: a16 :: a17 :: a18 :: a19 :: a20 :: a21 :: a22 :: a23 :: a24 :: a25 :: a26 :: a27 :: a28 :: a29 :: w9 :: L9)) : qLet 30 w9 (a0 :: a1 :: a2 :: a3 :: a4 :: a5 :: a6 :: a7 :: a8 :: a9 :: a10 :: a11 :: a12 :: a13 :: a14 :: a15 :: a16 :: a17 :: a18 :: a19 :: a20 :: a21 :: a22 :: a23 :: a24 :: a25 :: a26 :: a27 :: a28 :: a29 :: x9 :: L9) k9 := qLet_iff.mpr h
theorem q_let31 (h : k9 (a0 :: a1 :: a2 :: a3 :: a4 :: a5 :: a6 :: a7 :: a8 :: a9 :: a10 :: a11 :: a12 :: a13 :: a14 :: a15 :: a16 :: a17 :: a18 :: a19 :: a20 :: a21 :: a22 :: a23 :: a24 :: a25 :: a26 :: a27 :: a28 :: a29 :: a30 :: w9 :: L9)) : qLet 31 w9 (a0 :: a1 :: a2 :: a3 :: a4 :: a5 :: a6 :: a7 :: a8 :: a9 :: a10 :: a11 :: a12 :: a13 :: a14 :: a15 :: a16 :: a17 :: a18 :: a19 :: a20 :: a21 :: a22 :: a23 :: a24 :: a25 :: a26 :: a27 :: a28 :: a29 :: a30 :: x9 :: L9) k9 := qLet_iff.mpr h
theorem q_let32 (h : k9 (a0 :: a1 :: a2 :: a3 :: a4 :: a5 :: a6 :: a7 :: a8 :: a9 :: a10 :: a11 :: a12 :: a13 :: a14 :: a15 :: a16 :: a17 :: a18 :: a19 :: a20 :: a21 :: a22 :: a23 :: a24 :: a25 :: a26 :: a27 :: a28 :: a29 :: a30 :: a31 :: w9 :: L9)) : qLet 32 w9 (a0 :: a1 :: a2 :: a3 :: a4 :: a5 :: a6 :: a7 :: a8 :: a9 :: a10 :: a11 :: a12 :: a13 :: a14 :: a15 :: a16 :: a17 :: a18 :: a19 :: a20 :: a21 :: a22 :: a23 :: a24 :: a25 :: a26 :: a27 :: a28 :: a29 :: a30 :: a31 :: x9 :: L9) k9 := qLet_iff.mpr h
theorem q_let33 (h : k9 (a0 :: a1 :: a2 :: a3 :: a4 :: a5 :: a6 :: a7 :: a8 :: a9 :: a10 :: a11 :: a12 :: a13 :: a14 :: a15 :: a16 :: a17 :: a18 :: a19 :: a20 :: a21 :: a22 :: a23 :: a24 :: a25 :: a26 :: a27 :: a28 :: a29 :: a30 :: a31 :: a32 :: w9 :: L9)) : qLet 33 w9 (a0 :: a1 :: a2 :: a3 :: a4 :: a5 :: a6 :: a7 :: a8 :: a9 :: a10 :: a11 :: a12 :: a13 :: a14 :: a15 :: a16 :: a17 :: a18 :: a19 :: a20 :: a21 :: a22 :: a23 :: a24 :: a25 :: a26 :: a27 :: a28 :: a29 :: a30 :: a31 :: a32 :: x9 :: L9) k9 := qLet_iff.mpr h
theorem q_let34 (h : k9 (a0 :: a1 :: a2 :: a3 :: a4 :: a5 :: a6 :: a7 :: a8 :: a9 :: a10 :: a11 :: a12 :: a13 :: a14 :: a15 :: a16 :: a17 :: a18 :: a19 :: a20 :: a21 :: a22 :: a23 :: a24 :: a25 :: a26 :: a27 :: a28 :: a29 :: a30 :: a31 :: a32 :: a33 :: w9 :: L9)) : qLet 34 w9 (a0 :: a1 :: a2 :: a3 :: a4 :: a5 :: a6 :: a7 :: a8 :: a9 :: a10 :: a11 :: a12 :: a13 :: a14 :: a15 :: a16 :: a17 :: a18 :: a19 :: a20 :: a21 :: a22 :: a23 :: a24 :: a25 :: a26 :: a27 :: a28 :: a29 :: a30 :: a31 :: a32 :: a33 :: x9 :: L9) k9 := qLet_iff.mpr h
theorem q_let35 (h : k9 (a0 :: a1 :: a2 :: a3 :: a4 :: a5 :: a6 :: a7 :: a8 :: a9 :: a10 :: a11 :: a12 :: a13 :: a14 :: a15 :: a16 :: a17 :: a18 :: a19 :: a20 :: a21 :: a22 :: a23 :: a24 :: a25 :: a26 :: a27 :: a28 :: a29 :: a30 :: a31 :: a32 :: a33 :: a34 :: w9 :: L9)) : qLet 35 w9 (a0 :: a1 :: a2 :: a3 :: a4 :: a5 :: a6 :: a7 :: a8 :: a9 :: a10 :: a11 :: a12 :: a13 :: a14 :: a15 :: a16 :: a17 :: a18 :: a19 :: a20 :: a21 :: a22 :: a23 :: a24 :: a25 :: a26 :: a27 :: a28 :: a29 :: a30 :: a31 :: a32 :: a33 :: a34 :: x9 :: L9) k9 := qLet_iff.mpr h
theorem q_let36 (h : k9 (a0 :: a1 :: a2 :: a3 :: a4 :: a5 :: a6 :: a7 :: a8 :: a9 :: a10 :: a11 :: a12 :: a13 :: a14 :: a15 :: a16 :: a17 :: a18 :: a19 :: a20 :: a21 :: a22 :: a23 :: a24 :: a25 :: a26 :: a27 :: a28 :: a29 :: a30 :: a31 :: a32 :: a33 :: a34 :: a35 :: w9 :: L9)) : qLet 36 w9 (a0 :: a1 :: a2 :: a3 :: a4 :: a5 :: a6 :: a7 :: a8 :: a9 :: a10 :: a11 :: a12 :: a13 :: a14 :: a15 :: a16 :: a17 :: a18 :: a19 :: a20 :: a21 :: a22 :: a23 :: a24 :: a25 :: a26 :: a27 :: a28 :: a29 :: a30 :: a31 :: a32 :: a33 :: a34 :: a35 :: x9 :: L9) k9 := qLet_iff.mpr h
theorem q_let37 (h : k9 (a0 :: a1 :: a2 :: a3 :: a4 :: a5 :: a6 :: a7 :: a8 :: a9 :: a10 :: a11 :: a12 :: a13 :: a14 :: a15 :: a16 :: a17 :: a18 :: a19 :: a20 :: a21 :: a22 :: a23 :: a24 :: a25 :: a26 :: a27 :: a28 :: a29 :: a30 :: a31 :: a32 :: a33 :: a34 :: a35 :: a36 :: w9 :: L9)) : qLet 37 w9 (a0 :: a1 :: a2 :: a3 :: a4 :: a5 :: a6 :: a7 :: a8 :: a9 :: a10 :: a11 :: a12 :: a13 :: a14 :: a15 :: a16 :: a17 :: a18 :: a19 :: a20 :: a21 :: a22 :: a23 :: a24 :: a25 :: a26 :: a27 :: a28 :: a29 :: a30 :: a31 :: a32 :: a33 :: a34 :: a35 :: a36 :: x9 :: L9) k9 := qLet_iff.mpr h
theorem q_let38 (h : k9 (a0 :: a1 :: a2 :: a3 :: a4 :: a5 :: a6 :: a7 :: a8 :: a9 :: a10 :: a11 :: a12 :: a13 :: a14 :: a15 :: a16 :: a17 :: a18 :: a19 :: a20 :: a21 :: a22 :: a23 :: a24 :: a25 :: a26 :: a27 :: a28 :: a29 :: a30 :: a31 :: a32 :: a33 :: a34 :: a35 :: a36 :: a37 :: w9 :: L9)) : qLet 38 w9 (a0 :: a1 :: a2 :: a3 :: a4 :: a5 :: a6 :: a7 :: a8 :: a9 :: a10 :: a11 :: a12 :: a13 :: a14 :: a15 :: a16 :: a17 :: a18 :: a19 :: a20 :: a21 :: a22 :: a23 :: a24 :: a25 :: a26 :: a27 :: a28 :: a29 :: a30 :: a31 :: a32 :: a33 :: a34 :: a35 :: a36 :: a37 :: x9 :: L9) k9 := qLet_iff.mpr h
theorem q_let39 (h : k9 (a0 :: a1 :: a2 :: a3 :: a4 :: a5 :: a6 :: a7 :: a8 :: a9 :: a10 :: a11 :: a12 :: a13 :: a14 :: a15 :: a16 :: a17 :: a18 :: a19 :: a20 :: a21 :: a22 :: a23 :: a24 :: a25 :: a26 :: a27 :: a28 :: a29 :: a30 :: a31 :: a32 :: a33 :: a34 :: a35 :: a36 :: a37 :: a38 :: w9 :: L9)) : qLet 39 w9 (a0 :: a1 :: a2 :: a3 :: a4 :: a5 :: a6 :: a7 :: a8 :: a9 :: a10 :: a11 :: a12 :: a13 :: a14 :: a15 :: a16 :: a17 :: a18 :: a19 :: a20 :: a21 :: a22 :: a23 :: a24 :: a25 :: a26 :: a27 :: a28 :: a29 :: a30 :: a31 :: a32 :: a33 :: a34 :: a35 :: a36 :: a37 :: a38 :: x9 :: L9) k9 := qLet_iff.mpr h
end
/-! over a written list: turn by turn -/
def FlU (G : Store → Prop) (g : ZTG) (tb : ZS) (D : ZEnds) : List W → Loc' → Store → Prop
  | [], L, S => G S ∧ D.nx L S
  | w :: ws, L, S => G S ∧ g w L S fun L' S' => tb ⟨FlU G g tb D ws, D.rt, D.nx, FlU G g tb D ws⟩ L' S'
theorem forU {its : List W} {G : Store → Prop} {g : ZTG} {tb : ZS} {D : ZEnds} {L : Loc'} {S : Store} (h : FlU G g tb D its L S) : FlEnd ⟨its, G⟩ g tb D L S := by
  unfold FlEnd
  refine ⟨?_⟩
  refine ⟨fun i L S => FlU G g tb D (its.drop i) L S, h, fun i w L S e p => ?_, fun L S p => ?_⟩
  · have e1 : its[i]? = some w := e
    obtain ⟨hi, e2⟩ := List.getElem?_eq_some_iff.mp e1
    replace p : FlU G g tb D (its.drop i) L S := p
    rw [List.drop_eq_getElem_cons hi, e2] at p
    exact p
  · replace p : FlU G g tb D (its.drop its.length) L S := p
    rw [List.drop_length] at p
    exact p
def LcU (G : Store → Prop) (g : ZTG) (tt : ZT) (te : ZE) (L : Loc') (n : Nat) (K : WK) : List W → List W → Store → Prop
  | [], _, S2 => G S2 ∧ K (.ref n) S2
  | w :: ws, acc, S2 => G S2 ∧ S2[n]? = some (.lst acc) ∧ g w L S2 fun L' S3 => tt L' S3 fun b S4 => qIf b (te L' S4 fun y S5 => qPush n acc y S5 (LcU G g tt te L n K ws)) (LcU G g tt te L n K ws acc S4)
theorem lcU {its : List W} {G : Store → Prop} {g : ZTG} {tt : ZT} {te : ZE} {vs : List Nat} {L : Loc'} {S1 : Store} {K : WK} (h : qWipe L vs fun L0 => LcU G g tt te L0 S1.length K its [] (S1 ++ [.lst []])) : LcEnd ⟨its, G⟩ g tt te vs L S1 K := by
  unfold LcEnd
  refine ⟨?_⟩
  replace h := qWipe_eq.mp h
  refine ⟨fun i acc S => LcU G g tt te (wipeL L vs) S1.length K (its.drop i) acc S, h, fun i acc w S2 e p => ?_, fun acc S p => ?_⟩
  · have e1 : its[i]? = some w := e
    obtain ⟨hi, e2⟩ := List.getElem?_eq_some_iff.mp e1
    replace p : LcU G g tt te (wipeL L vs) S1.length K (its.drop i) acc S2 := p
    rw [List.drop_eq_getElem_cons hi, e2] at p
    obtain ⟨p1, p2, p3⟩ := p
    refine ⟨p1, p2, ?_⟩
    exact p3
  · replace p : LcU G g tt te (wipeL L vs) S1.length K (its.drop its.length) acc S := p
    rw [List.drop_length] at p
    exact p
theorem q_push0 {S T : Store} {acc : List W} {y : W} {KS : List W → Store → Prop} (hz : acc.length < sizeLine) (h : KS (acc ++ [y]) (S ++ .lst (acc ++ [y]) :: T)) : qPush S.length acc y (S ++ .lst acc :: T) KS := by
  unfold qPush
  refine ⟨?_⟩
  exact ⟨by rw [app_get0]; rfl, hz, by rw [app_set0]; exact h⟩
theorem q_push {S : Store} {n : Nat} {acc : List W} {y : W} {KS : List W → Store → Prop} (e : S[n]? = some (.lst acc)) (hz : acc.length < sizeLine) (h : KS (acc ++ [y]) (S.set n (.lst (acc ++ [y])))) : qPush n acc y S KS := by
  unfold qPush
  refine ⟨?_⟩
  exact ⟨e, hz, h⟩
/-- a promise of nothing -/
theorem zfn_false {P : Program} {w : World} {K : PySem.W.Frag} {mg : Str → Option Value} {base : Heap} {TB : List Addr} {k : Nat} {f : Addr} {fd : FuncData} {ps : List Str} : ZFn P w K mg base TB k f fd ps fun _ _ _ => False :=
  ⟨fun _ _ _ _ ⟨h, _⟩ => h, fun _ _ _ _ _ _ _ _ _ _ _ _ _ ⟨_, _, _, _, _, _, _, h, _⟩ => h.elim⟩
theorem rangeW_inv {lo : Int} {n i : Nat} {w : W} (h : (rangeW lo n)[i]? = some w) : i < n ∧ w = .int (lo + (i : Nat)) := by
  have hi : i < n := by
    have := (List.getElem?_eq_some_iff.mp h).1
    rwa [rangeW_length] at this
  rw [rangeW_get hi] at h
  exact ⟨hi, (Option.some.inj h).symm⟩
theorem rangeW_inv0 {n i : Nat} {w : W} (h : (rangeW 0 n)[i]? = some w) : i < n ∧ w = .int (i : Nat) := by
  have := rangeW_inv h
  rwa [Int.zero_add] at this
/-! values without addresses -/
mutual
inductive Pl : Nat → W → Prop
  | non (d : Nat) : Pl d .non
  | bl (d : Nat) (b : Bool) : Pl d (.bl b)
  | int (d : Nat) (i : Int) : Pl d (.int i)
  | str (d : Nat) (s : Str) (h : PyData.strOk s = true) : Pl d (.str s)
  | tup {d : Nat} {xs : List W} (hz : xs.length ≤ 16777216) (h : Pls d xs) : Pl (d + 1) (.tup xs)
inductive Pls : Nat → List W → Prop
  | nil (d : Nat) : Pls d []
  | cons {d : Nat} {x : W} {xs : List W} (h1 : Pl d x) (h2 : Pls d xs) : Pls d (x :: xs)
end
theorem Pls.get {d : Nat} {xs : List W} (h : Pls d xs) {k : Nat} {x : W} (e : xs[k]? = some x) : Pl d x := by
  induction xs generalizing k with
  | nil => cases e
  | cons y ys ih =>
    cases h with
    | cons h1 h2 =>
      cases k with
      | zero => cases e; exact h1
      | succ k => exact ih h2 e
theorem Pls.of {d : Nat} {xs : List W} (h : ∀ x ∈ xs, Pl d x) : Pls d xs := by
  induction xs with
  | nil => exact .nil d
  | cons y ys ih => exact .cons (h y (by simp)) (ih fun x hx => h x (by simp [hx]))
theorem Pl.mono {d e : Nat} {x : W} (h : Pl d x) (he : d ≤ e) : Pl e x := by
  revert he
  induction h using Pl.rec (motive_2 := fun d xs _ => ∀ e, d ≤ e → Pls e xs) generalizing e with
  | non => exact fun _ => .non _
  | bl => exact fun _ => .bl _ _
  | int => exact fun _ => .int _ _
  | str _ _ h => exact fun _ => .str _ _ h
  | tup hz _ ih =>
    intro he
    cases e with
    | zero => omega
    | succ e => exact .tup hz (ih e (by omega))
  | nil => exact .nil _
  | cons _ _ ih1 ih2 => rename_i e' he'; exact .cons (ih1 he') (ih2 e' he')
/-! values as data -/
mutual
def dat : W → PyData
  | .non => .none
  | .bl b => .bool b
  | .int i => .int i
  | .str s => .str s
  | .tup xs => .tuple (dats xs)
  | .ref _ => .none
  | .ty _ => .none
def dats : List W → List PyData
  | [] => []
  | x :: xs => dat x :: dats xs
end
theorem dats_map : ∀ xs : List W, dats xs = xs.map dat
  | [] => rfl
  | x :: xs => by rw [dats, dats_map xs]; rfl
mutual
theorem Pl.data {S : Store} : ∀ {d : Nat} {x : W}, Pl d x → DataOf S x (dat x) ∧ (dat x).canLay0 = true ∧ (dat x).depth ≤ d
  | _, _, .non _ => ⟨.non, rfl, Nat.zero_le _⟩
  | _, _, .bl _ b => ⟨.bl b, rfl, Nat.zero_le _⟩
  | _, _, .int _ i => ⟨.int i, rfl, Nat.zero_le _⟩
  | _, _, .str _ s h => ⟨.str s, by rw [dat, PyData.canLay0]; exact h, Nat.zero_le _⟩
  | _, _, .tup _ h => let h' := Pls.data (S := S) h; ⟨by rw [dat]; exact .tup h'.1, by rw [dat, PyData.canLay0]; exact h'.2.1, by rw [dat, PyData.depth]; have := h'.2.2; omega⟩
theorem Pls.data {S : Store} : ∀ {d : Nat} {xs : List W}, Pls d xs → DataAll S xs (dats xs) ∧ PyData.canLayAll0 (dats xs) = true ∧ PyData.depthAll (dats xs) ≤ d
  | _, _, .nil _ => ⟨.nil, rfl, Nat.zero_le _⟩
  | _, _, .cons h t => let h' := Pl.data (S := S) h; let t' := Pls.data (S := S) t; ⟨by rw [dats]; exact .cons h'.1 t'.1, by rw [dats, PyData.canLayAll0, h'.2.1, t'.2.1]; rfl, by rw [dats, PyData.depthAll]; have := h'.2.2; have := t'.2.2; omega⟩
end
theorem shaped_of {d : PyData} {n : Nat} (h1 : d.canLay0 = true) (h2 : d.depth ≤ n) (h3 : n ≤ 64) : SeqAt.shaped d = true := by
  unfold SeqAt.shaped
  rw [h1, decide_eq_true (by omega)]
  rfl
mutual
/-- values without truth values in them -/
inductive Pn : Nat → W → Prop
  | non (d : Nat) : Pn d .non
  | int (d : Nat) (i : Int) : Pn d (.int i)
  | str (d : Nat) (s : Str) (h : PyData.strOk s = true) : Pn d (.str s)
  | tup {d : Nat} {xs : List W} (hz : xs.length ≤ 16777216) (h : Pns d xs) : Pn (d + 1) (.tup xs)
inductive Pns : Nat → List W → Prop
  | nil (d : Nat) : Pns d []
  | cons {d : Nat} {x : W} {xs : List W} (h1 : Pn d x) (h2 : Pns d xs) : Pns d (x :: xs)
end
mutual
theorem Pn.pl : ∀ {d : Nat} {x : W}, Pn d x → Pl d x
  | _, _, .non _ => .non _
  | _, _, .int _ _ => .int _ _
  | _, _, .str _ _ h => .str _ _ h
  | _, _, .tup hz h => .tup hz (Pns.pl h)
theorem Pns.pl : ∀ {d : Nat} {xs : List W}, Pns d xs → Pls d xs
  | _, _, .nil _ => .nil _
  | _, _, .cons h t => .cons (Pn.pl h) (Pns.pl t)
end
theorem Pns.of {d : Nat} {xs : List W} (h : ∀ x ∈ xs, Pn d x) : Pns d xs := by
  induction xs with
  | nil => exact .nil d
  | cons y ys ih => exact .cons (h y (by simp)) (ih fun x hx => h x (by simp [hx]))
theorem Pns.mem {d : Nat} {xs : List W} (h : Pns d xs) {x : W} (hx : x ∈ xs) : Pn d x := by
  induction xs with
  | nil => cases hx
  | cons y ys ih =>
    cases h with
    | cons h1 h2 =>
      rcases List.mem_cons.mp hx with e | e
      · exact e ▸ h1
      · exact ih h2 e
mutual
theorem Pn.eqv : ∀ {d e : Nat} {x y : W}, Pn d x → Pn e y → (PyData.eqv (dat x) (dat y) = true ↔ x = y)
  | _, _, _, _, .non _, .non _ => by simp [dat, PyData.eqv]
  | _, _, _, _, .non _, .int _ _ => by simp [dat, PyData.eqv]
  | _, _, _, _, .non _, .str _ _ _ => by simp [dat, PyData.eqv]
  | _, _, _, _, .non _, .tup _ _ => by simp [dat, PyData.eqv]
  | _, _, _, _, .int _ _, .non _ => by simp [dat, PyData.eqv]
  | _, _, _, _, .int _ _, .int _ _ => by simp [dat, PyData.eqv]
  | _, _, _, _, .int _ _, .str _ _ _ => by simp [dat, PyData.eqv]
  | _, _, _, _, .int _ _, .tup _ _ => by simp [dat, PyData.eqv]
  | _, _, _, _, .str _ _ _, .non _ => by simp [dat, PyData.eqv]
  | _, _, _, _, .str _ _ _, .int _ _ => by simp [dat, PyData.eqv]
  | _, _, _, _, .str _ _ _, .str _ _ _ => by simp [dat, PyData.eqv]
  | _, _, _, _, .str _ _ _, .tup _ _ => by simp [dat, PyData.eqv]
  | _, _, _, _, .tup _ _, .non _ => by simp [dat, PyData.eqv]
  | _, _, _, _, .tup _ _, .int _ _ => by simp [dat, PyData.eqv]
  | _, _, _, _, .tup _ _, .str _ _ _ => by simp [dat, PyData.eqv]
  | _, _, _, _, .tup _ h, .tup _ h' => by rw [dat, dat, PyData.eqv, Pns.eqv h h']; simp
theorem Pns.eqv : ∀ {d e : Nat} {xs ys : List W}, Pns d xs → Pns e ys → (PyData.eqvAll (dats xs) (dats ys) = true ↔ xs = ys)
  | _, _, _, _, .nil _, .nil _ => by simp [dats, PyData.eqvAll]
  | _, _, _, _, .nil _, .cons _ _ => by simp [dats, PyData.eqvAll]
  | _, _, _, _, .cons _ _, .nil _ => by simp [dats, PyData.eqvAll]
  | _, _, _, _, .cons h t, .cons h' t' => by rw [dats, dats, PyData.eqvAll, Bool.and_eq_true, Pn.eqv h h', Pns.eqv t t']; simp
end
theorem bool_dec {b : Bool} {p : Prop} [Decidable p] (h : b = true ↔ p) : b = decide p := by
  cases b
  · exact (decide_eq_false fun hp => Bool.false_ne_true (h.mpr hp)).symm
  · exact (decide_eq_true (h.mp rfl)).symm
section
variable {S : Store} {K : WK} {x y : W} {xs ys : List W} {n m d e : Nat}
open Classical in
theorem q_eq_pn (hx : Pn d x) (hy : Pn e y) (h1 : d ≤ 64) (h2 : e ≤ 64) (h : K (.bl (decide (x = y))) S) : qEq false x y S K := by
  obtain ⟨a, b, c⟩ := hx.pl.data (S := S)
  obtain ⟨a', b', c'⟩ := hy.pl.data (S := S)
  exact qEq_scal a a' (shaped_of b c h1) (shaped_of b' c' h2) (bool_dec (hx.eqv hy)) (by rw [Bool.false_xor]; exact h)
open Classical in
theorem q_ne_pn (hx : Pn d x) (hy : Pn e y) (h1 : d ≤ 64) (h2 : e ≤ 64) (h : K (.bl (!decide (x = y))) S) : qEq true x y S K := by
  obtain ⟨a, b, c⟩ := hx.pl.data (S := S)
  obtain ⟨a', b', c'⟩ := hy.pl.data (S := S)
  exact qEq_scal a a' (shaped_of b c h1) (shaped_of b' c' h2) (bool_dec (hx.eqv hy)) (by rw [Bool.true_xor]; exact h)
theorem lst_data (hl : IsLst S n xs) (h : Pls d xs) (hd : d ≤ 63) : DataOf S (.ref n) (.list (dats xs)) ∧ SeqAt.shaped (.list (dats xs)) = true := by
  obtain ⟨a, b, c⟩ := h.data (S := S)
  exact ⟨.ref hl a, shaped_of (n := d + 1) (by rw [PyData.canLay0]; exact b) (by rw [PyData.depth]; omega) (by omega)⟩
open Classical in
theorem q_eq_lpn (hx : IsLst S n xs) (hy : IsLst S m ys) (h1 : Pns d xs) (h2 : Pns e ys) (h3 : d ≤ 63) (h4 : e ≤ 63) (h : K (.bl (decide (xs = ys))) S) : qEq false (.ref n) (.ref m) S K := by
  obtain ⟨a, b⟩ := lst_data hx h1.pl h3
  obtain ⟨a', b'⟩ := lst_data hy h2.pl h4
  exact qEq_scal (b := decide (xs = ys)) a a' b b' (by rw [PyData.eqv]; exact bool_dec (h1.eqv h2)) (by rw [Bool.false_xor]; exact h)
open Classical in
theorem q_ne_lpn (hx : IsLst S n xs) (hy : IsLst S m ys) (h1 : Pns d xs) (h2 : Pns e ys) (h3 : d ≤ 63) (h4 : e ≤ 63) (h : K (.bl (!decide (xs = ys))) S) : qEq true (.ref n) (.ref m) S K := by
  obtain ⟨a, b⟩ := lst_data hx h1.pl h3
  obtain ⟨a', b'⟩ := lst_data hy h2.pl h4
  exact qEq_scal (b := decide (xs = ys)) a a' b b' (by rw [PyData.eqv]; exact bool_dec (h1.eqv h2)) (by rw [Bool.true_xor]; exact h)
theorem any_mem (hx : Pn d x) (hy : Pns e ys) [Decidable (x ∈ ys)] : ((dats ys).any fun z => PyData.eqv z (dat x)) = decide (x ∈ ys) := bool_dec (by
  rw [dats_map, List.any_map, List.any_eq_true]
  constructor
  · rintro ⟨z, hz, hq⟩
    rw [← ((hy.mem hz).eqv hx).mp hq]
    exact hz
  · intro h
    exact ⟨x, h, (hx.eqv hx).mpr rfl⟩)
theorem q_in {neg : Bool} [Decidable (x ∈ ys)] (hd : DataOf S y (.list (dats ys)) ∨ DataOf S y (.tuple (dats ys))) (hx : Pn d x) (hy : Pns e ys) (h1 : d ≤ 64) (h2 : e ≤ 63) (h : K (.bl (neg ^^ decide (x ∈ ys))) S) : qIn neg x y S K := by
  obtain ⟨a, b, c⟩ := hx.pl.data (S := S)
  obtain ⟨_, b', c'⟩ := hy.pl.data (S := S)
  unfold qIn
  exact ⟨.inl ⟨_, _, a, hd, shaped_of b c h1, shaped_of (n := e + 1) (by rw [PyData.canLay0]; exact b') (by rw [PyData.depth]; omega) (by omega), by rw [any_mem hx hy]; exact h⟩⟩
open Classical in
theorem q_in_l (hl : IsLst S n ys) (hx : Pn d x) (hy : Pns e ys) (h1 : d ≤ 64) (h2 : e ≤ 63) (h : K (.bl (decide (x ∈ ys))) S) : qIn false x (.ref n) S K :=
  q_in (.inl (.ref hl hy.pl.data.1)) hx hy h1 h2 (by rw [Bool.false_xor]; exact h)
open Classical in
theorem q_in_t (hx : Pn d x) (hy : Pns e ys) (h1 : d ≤ 64) (h2 : e ≤ 63) (h : K (.bl (decide (x ∈ ys))) S) : qIn false x (.tup ys) S K :=
  q_in (.inr (.tup hy.pl.data.1)) hx hy h1 h2 (by rw [Bool.false_xor]; exact h)
open Classical in
theorem q_notin_l (hl : IsLst S n ys) (hx : Pn d x) (hy : Pns e ys) (h1 : d ≤ 64) (h2 : e ≤ 63) (h : K (.bl (!decide (x ∈ ys))) S) : qIn true x (.ref n) S K :=
  q_in (.inl (.ref hl hy.pl.data.1)) hx hy h1 h2 (by rw [Bool.true_xor]; exact h)
open Classical in
theorem q_notin_t (hx : Pn d x) (hy : Pns e ys) (h1 : d ≤ 64) (h2 : e ≤ 63) (h : K (.bl (!decide (x ∈ ys))) S) : qIn true x (.tup ys) S K :=
  q_in (.inr (.tup hy.pl.data.1)) hx hy h1 h2 (by rw [Bool.true_xor]; exact h)
theorem q_index {j : Nat} (hl : IsLst S n ys) (hx : Pn d x) (hy : Pns e ys) (h1 : d ≤ 64) (h2 : e ≤ 63) (hj : ys[j]? = some x) (hm : ∀ m, m < j → ys[m]? ≠ some x) (h : K (.int (j : Nat)) S) : qIndex (.ref n) [x] S K := by
  obtain ⟨a, b, c⟩ := hx.pl.data (S := S)
  obtain ⟨a', b'⟩ := lst_data hl hy.pl h2
  have e1 : (dats ys)[j]? = some (dat x) := by rw [dats_map, List.getElem?_map, hj]; rfl
  unfold qIndex
  refine ⟨⟨_, _, j, _, a', a, b', shaped_of b c h1, e1, (hx.eqv hx).mpr rfl, fun m z' hmj hz => ?_, h⟩⟩
  rw [dats_map, List.getElem?_map, Option.map_eq_some_iff] at hz
  obtain ⟨z, hz, rfl⟩ := hz
  cases hq : PyData.eqv (dat z) (dat x)
  · rfl
  · have := ((hy.mem (List.mem_of_getElem? hz)).eqv hx).mp hq
    subst this
    exact (hm m hmj hz).elim
end
section
variable {L : Loc'} {S1 : Store} {K : WK} {te : ZE} {tt : ZT} {g : ZTG} {vs : List Nat} {its : List W} {G : Store → Prop}
theorem lcMap (f : W → W) (hG : ∀ S, Ext S1 S → G S) (hsz : its.length ≤ sizeLine)
    (turn : ∀ (i : Nat) (w : W) (S2 : Store) (Kt : WK) (Kf : Store → Prop), its[i]? = some w → Ext S1 S2 → (∀ S5, Ext S2 S5 → Kt (f w) S5) → qWipe L vs fun L0 => g w L0 S2 fun L' S3 => tt L' S3 fun b S4 => qIf b (te L' S4 Kt) (Kf S4))
    (done : ∀ S2, Ext S1 S2 → S2[S1.length]? = some (.lst (its.map f)) → K (.ref S1.length) S2) : LcEnd ⟨its, G⟩ g tt te vs L S1 K :=
  lcF (fun w => some (f w)) hG hsz (fun i w S2 Kt Kf hw k hK _ => turn i w S2 Kt Kf hw k fun S5 k5 => hK _ _ rfl k5) fun S2 k h => done S2 k (by rw [h]; congr 2; exact (List.filterMap_eq_map (f := f) ▸ rfl))
end
section
variable {S : Store} {K : WK} {n : Nat}
theorem s_sorted {ns : List Int} (e : IsLst S n (ns.map W.int)) (h : ∀ ns' : List Int, ns'.Perm ns → ns'.Pairwise (· ≤ ·) → K (.ref S.length) (S ++ [.lst (ns'.map W.int)])) : qSorted [.ref n] S K := by
  unfold qSorted
  exact ⟨⟨ns, e, h⟩⟩
end
end Z

set_option maxHeartbeats 4000000
/-! Z10: the helpers that twenty of the laws share: the flow of numbers, and the likeness of two values. -/
namespace FA
open PySem PySem.Spec PyProof.Rows L2 Z
local macro_rules | `(tactic| tb_start) => `(tactic| first | assumption | exact True.intro | exact ⟨_, _, rfl, by allgen_close_more⟩ | ((with_reducible refine' MulOk.r ?s1 ?s2); (case s1 => (decide)); (case s2 => (decide))) | ((with_reducible refine' DivOk.small ?s1 ?s2); (case s1 => (decide)); (case s2 => (decide))) | ((with_reducible refine' MulOk.r ?s1 ?s2); (case s1 => (omega)); (case s2 => (omega))) | ((with_reducible refine' MulOk.l ?s1 ?s2); (case s1 => (omega)); (case s2 => (omega))) | ((with_reducible refine' DivOk.small ?s1 ?s2); (case s1 => (omega)); (case s2 => (omega))) | ((with_reducible refine' PowOk.lit ?s1 ?s2 ?s3); (case s1 => (decide)); (case s2 => (decide)); (case s3 => (decide))) | omega | ((with_reducible refine' s_sz ?s1); (case s1 => (first | omega | (simp only [List.length_append, List.length_cons, List.length_nil, List.length_map, List.length_set, List.length_take, List.length_drop, List.length_dropLast] <;> omega)))) | ((with_reducible refine' s_szl ?s1); (case s1 => (first | omega | (simp only [List.length_append, List.length_cons, List.length_nil, List.length_map, List.length_set, List.length_take, List.length_drop, List.length_dropLast] <;> omega)))) | allgen_close_more | allgen_close2_more | decide)
local macro_rules | `(tactic| ke_reads) => `(tactic| first | assumption | exact Ne.symm (by assumption) | omega | (simp only [List.length_append, List.length_cons, List.length_nil, List.length_set] at * <;> omega))
local macro_rules | `(tactic| ked_reads) => `(tactic| first | assumption | ((with_reducible refine' lt_of_get ?s1); (case s1 => (allgen_close2_more))))
local macro_rules | `(tactic| allgen_close2_more) => `(tactic| first | assumption | ((with_reducible refine' List.getElem?_set_self ?s1); (case s1 => (ked_reads))) | ((with_reducible refine' set_ne' ?s1 ?s2); (case s1 => (ke_reads)); (case s2 => (allgen_close2_more))) | exact (app_get0 _ _).trans rfl | exact (app_get _ _ _).trans rfl | ((with_reducible refine' app_l ?s1); (case s1 => (allgen_close2_more))))
local macro_rules | `(tactic| allgen_close_more) => `(tactic| first | assumption | (apply getL_of; assumption) | ((with_reducible refine' getL_set_self ?s1); (case s1 => (ked_reads))) | exact getL_app00 _ _ _ | exact getL_app1 _ _ _ _ | ((with_reducible refine' getL_set_ne' ?s1 ?s2); (case s1 => (ke_reads)); (case s2 => (allgen_close_more))) | ((with_reducible refine' getL_app_l ?s1); (case s1 => (allgen_close_more))) | exact (getL_app _ _ _).trans rfl)
local macro_rules | `(tactic| kqd_all) => `(tactic| first | assumption | (rw [atI_m1]; first | with_unfolding_all rfl | assumption) | (rw [atI_lit]; first | with_unfolding_all rfl | assumption) | (rw [atI_cast]; assumption) | exact atI_ints (by omega) (by simp only [List.length_map] at *; omega))
local macro_rules | `(tactic| kct_strs) => `(tactic| first | assumption | (rw [ixN_lit, if_pos (by simp)]; done))
local macro_rules | `(tactic| kp_flats) => `(tactic| first | with_reducible refine q_let0 ?_ | with_reducible refine q_let1 ?_ | with_reducible refine q_let2 ?_ | with_reducible refine q_let3 ?_ | with_reducible refine q_let4 ?_ | with_reducible refine q_let5 ?_ | with_reducible refine q_let6 ?_ | with_reducible refine q_let7 ?_ | with_reducible refine q_let8 ?_ | with_reducible refine q_let9 ?_ | with_reducible refine q_let10 ?_ | with_reducible refine q_let11 ?_ | with_reducible refine q_let12 ?_ | with_reducible refine q_let13 ?_ | with_reducible refine q_let14 ?_ | with_reducible refine q_let15 ?_ | with_reducible refine q_let16 ?_ | with_reducible refine q_let17 ?_ | with_reducible refine q_let18 ?_ | with_reducible refine q_let19 ?_ | with_reducible refine q_let20 ?_ | with_reducible refine q_let21 ?_ | with_reducible refine q_let22 ?_ | with_reducible refine q_let23 ?_ | with_reducible refine q_let24 ?_ | with_reducible refine q_let25 ?_ | with_reducible refine q_let26 ?_ | with_reducible refine q_let27 ?_ | with_reducible refine q_let28 ?_ | with_reducible refine q_let29 ?_ | with_reducible refine q_let30 ?_ | with_reducible refine q_let31 ?_ | with_reducible refine q_let32 ?_ | with_reducible refine q_let33 ?_ | with_reducible refine q_let34 ?_ | with_reducible refine q_let35 ?_ | with_reducible refine q_let36 ?_ | with_reducible refine q_let37 ?_ | with_reducible refine q_let38 ?_ | with_reducible refine q_let39 ?_)
local macro_rules | `(tactic| tb_rel) => `(tactic| first | ((with_reducible show qLet _ _ _ _); kp_flats) | ((with_reducible refine' i_dt ?s1 ?_); (case s1 => (first | assumption | rfl))) | ((with_reducible refine' i_df ?s1 ?_); (case s1 => (assumption))) | ((with_reducible refine' i_nf ?s1 ?_); (case s1 => (first | assumption | rfl))) | ((with_reducible refine' i_nt ?s1 ?_); (case s1 => (assumption))) | ((with_reducible refine' i_t ?s1 ?_); (case s1 => (with_unfolding_all rfl))) | ((with_reducible refine' i_f ?s1 ?_); (case s1 => (with_unfolding_all rfl))) | ((with_reducible refine' q_ix_tup ?s1 ?_); (case s1 => (kqd_all))) | ((with_reducible refine' q_ix_ref ?s1 ?s2 ?_); (case s1 => (allgen_close_more)); (case s2 => (kqd_all))) | ((with_reducible refine' q_eq_int ?_)) | ((with_reducible refine' q_ne_int ?_)) | ((with_reducible refine' q_eq_str ?s1 ?s2 ?_); (case s1 => (first | assumption | decide +kernel)); (case s2 => (first | assumption | decide +kernel))) | ((with_reducible refine' q_ne_str ?s1 ?s2 ?_); (case s1 => (first | assumption | decide +kernel)); (case s2 => (first | assumption | decide +kernel))) | ((with_reducible refine' q_len_tup ?_)) | ((with_reducible refine' q_len_ref ?s1 ?_); (case s1 => (allgen_close_more))) | ((with_reducible refine' s_isml ?s1 ?_); (case s1 => (allgen_close_more))) | ((with_reducible refine' q_append2 ?s1 ?s2 ?_); (case s1 => (ked_reads)); (case s2 => (tb_start))) | ((with_reducible refine' q_append0 ?s1 ?_); (case s1 => (tb_start))) | ((with_reducible refine' q_append1 ?s1 ?_); (case s1 => (tb_start))) | ((with_reducible refine' q_append ?s1 ?s2 ?_); (case s1 => (allgen_close2_more)); (case s2 => (tb_start))) | ((with_reducible refine' q_cat ?s1 ?s2 ?s3 ?_); (case s1 => (allgen_close2_more)); (case s2 => (allgen_close2_more)); (case s3 => (tb_start))) | ((with_reducible refine' q_setL2 ?s1 ?s2 ?_); (case s1 => (ked_reads)); (case s2 => (kct_strs))) | ((with_reducible refine' q_setL ?s1 ?s2 ?_); (case s1 => (allgen_close2_more)); (case s2 => (kct_strs))) | ((with_reducible refine' q_tup_tup ?_)) | ((with_reducible refine' q_tup_ref ?s1 ?_); (case s1 => (allgen_close_more))) | ((with_reducible refine' q_list_tup ?_)) | ((with_reducible refine' q_list_ref ?s1 ?_); (case s1 => (allgen_close_more))) | ((with_reducible refine' q_sl_tup ?_)) | ((with_reducible refine' q_sl_ref ?s1 ?_); (case s1 => (allgen_close_more))) | ((with_reducible refine' s_seqI_tup ?_)) | ((with_reducible refine' s_seqI_ref ?s1 ?_); (case s1 => (allgen_close_more))) | ((with_reducible refine' q_eq_pn (d := 8) (e := 8) ?s1 ?s2 ?s3 ?s4 ?_); (case s1 => (lsm_bools)); (case s2 => (lsm_bools)); (case s3 => (first | decide | omega)); (case s4 => (first | decide | omega))) | ((with_reducible refine' q_ne_pn (d := 8) (e := 8) ?s1 ?s2 ?s3 ?s4 ?_); (case s1 => (lsm_bools)); (case s2 => (lsm_bools)); (case s3 => (first | decide | omega)); (case s4 => (first | decide | omega))) | ((with_reducible refine' q_eq_lpn (d := 8) (e := 8) ?s1 ?s2 ?s3 ?s4 ?s5 ?s6 ?_); (case s1 => (allgen_close_more)); (case s2 => (allgen_close_more)); (case s3 => (lsm_bools)); (case s4 => (lsm_bools)); (case s5 => (first | decide | omega)); (case s6 => (first | decide | omega))) | ((with_reducible refine' q_ne_lpn (d := 8) (e := 8) ?s1 ?s2 ?s3 ?s4 ?s5 ?s6 ?_); (case s1 => (allgen_close_more)); (case s2 => (allgen_close_more)); (case s3 => (lsm_bools)); (case s4 => (lsm_bools)); (case s5 => (first | decide | omega)); (case s6 => (first | decide | omega))) | ((with_reducible refine' q_is_non ?_)) | ((with_reducible refine' q_isnot_non ?_)) | ((with_reducible refine' q_eq_bl ?_)) | ((with_reducible refine' q_ne_bl ?_)) | ((with_reducible refine' q_isi ?s1 ?s2 ?_); (case s1 => (with_unfolding_all rfl)); (case s2 => (with_unfolding_all rfl))) | ((with_reducible refine' q_in_l (d := 8) (e := 8) ?s1 ?s2 ?s3 ?s4 ?s5 ?_); (case s1 => (allgen_close_more)); (case s2 => (lsm_bools)); (case s3 => (lsm_bools)); (case s4 => (first | decide | omega)); (case s5 => (first | decide | omega))) | ((with_reducible refine' q_in_t (d := 8) (e := 8) ?s1 ?s2 ?s3 ?s4 ?_); (case s1 => (lsm_bools)); (case s2 => (lsm_bools)); (case s3 => (first | decide | omega)); (case s4 => (first | decide | omega))) | ((with_reducible refine' q_notin_l (d := 8) (e := 8) ?s1 ?s2 ?s3 ?s4 ?s5 ?_); (case s1 => (allgen_close_more)); (case s2 => (lsm_bools)); (case s3 => (lsm_bools)); (case s4 => (first | decide | omega)); (case s5 => (first | decide | omega))) | ((with_reducible refine' q_notin_t (d := 8) (e := 8) ?s1 ?s2 ?s3 ?s4 ?_); (case s1 => (lsm_bools)); (case s2 => (lsm_bools)); (case s3 => (first | decide | omega)); (case s4 => (first | decide | omega))) | ((with_reducible refine' q_push0 ?s1 ?_); (case s1 => (tb_start))) | ((with_reducible refine' q_push ?s1 ?s2 ?_); (case s1 => (allgen_close2_more)); (case s2 => (tb_start))) | ((with_reducible refine' And.intro ?s1 ?_); (case s1 => (tb_start))))
local macro_rules | `(tactic| kbo_bools) => `(tactic| first | with_reducible refine i_d (fun _ => ?_) (fun _ => ?_) | with_reducible refine i_n (fun _ => ?_) (fun _ => ?_))
local macro_rules | `(tactic| keq_rows) => `(tactic| ((conv => whnf); repeat (tb_rel; (conv => whnf))))
local macro_rules | `(tactic| k_upd) => `(tactic| (keq_rows; try (kbo_bools <;> k_upd)))
local macro_rules | `(tactic| kat_tups) => `(tactic| (simp only [startL, List.map_cons, List.map_nil, List.length_cons, List.length_nil, Nat.zero_add, Nat.reduceAdd, Nat.reduceSub, List.reduceReplicate, List.cons_append, List.nil_append]; keq_rows))
local macro_rules | `(tactic| k_updF) => `(tactic| first | assumption | exact Keep.refl _ _ | exact Keep.app _ _ _ | ((with_reducible refine' Keep.app_r ?s1); (case s1 => (k_updF))) | ((with_reducible refine' Keep.set_in ?s1 ?s2); (case s1 => ((simp only [List.mem_cons, true_or, or_true]))); (case s2 => (k_updF))) | ((with_reducible refine' Keep.set_new ?s1 ?s2); (case s1 => (first | omega | (simp only [List.length_append, List.length_cons, List.length_nil, List.length_set] at * <;> omega))); (case s2 => (k_updF))) | exact Ext.keep (by assumption) | ((with_reducible refine' Keep.trans ?a (by assumption)); (case a => (k_updF))) | ((with_reducible refine' Keep.trans ?a (Ext.keep (by assumption))); (case a => (k_updF))))
local macro_rules | `(tactic| lsm_bools) => `(tactic| first | assumption | exact Pl.int _ _ | exact Pn.int _ _ | ((with_reducible refine' Pl.str _ _ ?s1); (case s1 => (first | assumption | decide +kernel))) | ((with_reducible refine' Pn.str _ _ ?s1); (case s1 => (first | assumption | decide +kernel))) | exact Pn.non _ | exact Pl.non _ | exact Pl.bl _ _ | exact Pns.nil _ | exact Pls.nil _ | ((with_reducible refine' Pls.cons ?s1 ?s2); (case s1 => (lsm_bools)); (case s2 => (lsm_bools))) | ((with_reducible refine' Pns.cons ?s1 ?s2); (case s1 => (lsm_bools)); (case s2 => (lsm_bools))) | ((with_reducible refine' Pl.tup ?s1 ?s2); (case s1 => (first | omega | (simp only [List.length_append, List.length_cons, List.length_nil, List.length_map, List.length_set, List.length_take, List.length_drop, List.length_dropLast] <;> omega))); (case s2 => (lsm_bools))) | ((with_reducible refine' Pn.tup ?s1 ?s2); (case s1 => (first | omega | (simp only [List.length_append, List.length_cons, List.length_nil, List.length_map, List.length_set, List.length_take, List.length_drop, List.length_dropLast] <;> omega))); (case s2 => (lsm_bools))))
def t__law_mix : ZS :=
    (zSeq (zAsg (zOp qMod (zCall qInt (zCons (zOp qAdd (zOp qAdd (zOp qMul (zVar 0) (zC (.int 75403))) (zOp qMul (zVar 1) (zC (.int 50021)))) (zC (.int 877))) zNil)) (zC (.int 2147483629))) (zgName 2))
    (zSeq (zAsg (zOp qMod (zCall qInt (zCons (zOp qAdd (zOp qAdd (zOp qMul (zVar 2) (zVar 2)) (zOp qMul (zVar 1) (zC (.int 30011)))) (zOp qDiv (zVar 2) (zC (.int 11)))) zNil)) (zC (.int 2147483587))) (zgName 3))
    (zRet (zOp qMod (zCall qInt (zCons (zOp qAdd (zOp qAdd (zOp qMul (zVar 3) (zVar 3)) (zOp qDiv (zVar 3) (zC (.int 13)))) (zVar 1)) zNil)) (zC (.int 2147483563))))))
def t__law_flow (sp__law_mix : ZC) : ZS :=
    (zSeq (zAsg (zCall qLen (zCons (zVar 0) zNil)) (zgName 1))
    (zSeq (zFor (zSeqI (zSl (zVar 0) zNoPart (zPart (zC (.int 63))))) (zgName 2) (zAsg (zCallF 2 sp__law_mix (zCons (zOp qAdd (zVar 1) (zVar 2)) (zCons (zC (.int 3)) zNil))) (zgName 1)))
    (zRet (zLst (zCons (zSl (zVar 0) zNoPart (zPart (zC (.int 63)))) (zCons (zC (.int 0)) (zCons (zC (.int 0)) (zCons (zC (.int 0)) (zCons (zC (.int 0)) (zCons (zVar 1) zNil))))))))))
def t__law_draw (sp__law_mix : ZC) : ZS :=
    (zSeq (zAsg (zOp qAdd (zOp qIx (zVar 0) (zC (.int 4))) (zC (.int 1))) (zgSub (zVar 0) (zC (.int 4)) qSetL))
    (zSeq (zIfS (zAnd (zTb (zOp (qEq false) (zOp qIx (zVar 0) (zC (.int 3))) (zC (.int 0)))) (zTb (zOp qLt (zOp qIx (zVar 0) (zC (.int 1))) (zCall qLen (zCons (zOp qIx (zVar 0) (zC (.int 0))) zNil))))) (zSeq (zAsg (zCall qAbs (zCons (zCall qInt (zCons (zOp qIx (zOp qIx (zVar 0) (zC (.int 0))) (zOp qIx (zVar 0) (zC (.int 1)))) zNil)) zNil)) (zgName 2))
    (zSeq (zAsg (zOp qAdd (zOp qIx (zVar 0) (zC (.int 1))) (zC (.int 1))) (zgSub (zVar 0) (zC (.int 1)) qSetL))
    (zSeq (zIfS (zTb (zOp qLt (zVar 2) (zOp qPow (zC (.int 10)) (zC (.int 18))))) (zRet (zOp qMod (zCall qInt (zCons (zCallF 2 sp__law_mix (zCons (zVar 2) (zCons (zOp qIx (zVar 0) (zC (.int 4))) zNil))) zNil)) (zVar 1))) zNext)
    (zSeq (zAsg (zVar 2) (zgSub (zVar 0) (zC (.int 2)) qSetL))
    (zAsg (zC (.int 60)) (zgSub (zVar 0) (zC (.int 3)) qSetL)))))) zNext)
    (zSeq (zIfS (zTb (zOp (qEq false) (zOp qIx (zVar 0) (zC (.int 3))) (zC (.int 0)))) (zRet (zOp qMod (zCall qInt (zCons (zCallF 2 sp__law_mix (zCons (zOp qIx (zVar 0) (zC (.int 5))) (zCons (zOp qIx (zVar 0) (zC (.int 4))) zNil))) zNil)) (zVar 1))) zNext)
    (zSeq (zAsg (zOp qMod (zCall qInt (zCons (zOp qIx (zVar 0) (zC (.int 2))) zNil)) (zVar 1)) (zgName 3))
    (zSeq (zAsg (zOp qDiv (zOp qIx (zVar 0) (zC (.int 2))) (zVar 1)) (zgSub (zVar 0) (zC (.int 2)) qSetL))
    (zSeq (zAsg (zOp qMul (zOp qSub (zOp qIx (zVar 0) (zC (.int 3))) (zC (.int 1))) (zCall qInt (zCons (zOp qGt (zOp qIx (zVar 0) (zC (.int 2))) (zC (.int 0))) zNil))) (zgSub (zVar 0) (zC (.int 3)) qSetL))
    (zRet (zVar 3))))))))
def t__law_one (sp__law_draw : ZC) : ZS :=
    (zRet (zOp qIx (zVar 1) (zCallF 2 sp__law_draw (zCons (zVar 0) (zCons (zCall qLen (zCons (zVar 1) zNil)) zNil)))))
def t__law_same (sp__law_same : ZC) : ZS :=
    (zSeq (zIfS (zTru (zCall qIsi (zCons (zVar 1) (zCons (zC (.ty "tuple")) zNil)))) (zSeq (zIfS (zOr (zNot (zTru (zCall qIsi (zCons (zVar 0) (zCons (zC (.ty "tuple")) zNil))))) (zTb (zOp (qEq true) (zCall qLen (zCons (zVar 0) zNil)) (zCall qLen (zCons (zVar 1) zNil))))) (zRet (zC (.bl false))) zNext)
    (zRet (zOp (qEq false) (zCall qLen (zCons (zLc (zRngI (zCons (zCall qLen (zCons (zVar 1) zNil)) zNil)) (zgName 2) (zNot (zTru (zCallF 2 sp__law_same (zCons (zOp qIx (zVar 0) (zVar 2)) (zCons (zOp qIx (zVar 1) (zVar 2)) zNil))))) (zVar 2) [2]) zNil)) (zC (.int 0))))) zNext)
    (zSeq (zIfS (zTb (zOp (qIsN false) (zVar 1) (zC .non))) (zRet (zOp (qIsN false) (zVar 0) (zC .non))) zNext)
    (zSeq (zIfS (zTru (zCall qIsi (zCons (zVar 1) (zCons (zC (.ty "str")) zNil)))) (zRet (zAndV (zCall qIsi (zCons (zVar 0) (zCons (zC (.ty "str")) zNil))) (zOp (qEq false) (zVar 0) (zVar 1)))) zNext)
    (zSeq (zIfS (zTb (zOp (qEq true) (zCall qIsi (zCons (zVar 1) (zCons (zC (.ty "bool")) zNil))) (zCall qIsi (zCons (zVar 0) (zCons (zC (.ty "bool")) zNil))))) (zRet (zC (.bl false))) zNext)
    (zRet (zAndV (zCall qIsi (zCons (zVar 0) (zCons (zC (.ty "int")) zNil))) (zOp (qEq false) (zVar 0) (zVar 1))))))))
abbrev EndK (K : WK) : ZEnds := { nx := fun _ S' => K .non S', rt := K }
@[irreducible] def sp__law_mix : ZC := fun ws S K => ∃ c t, ws = [.int c, .int t] ∧ ∀ r, 0 ≤ r → r < 2147483563 → K (.int r) S
theorem u__law_mix (ws : List W) (S : Store) (K : WK) (h : sp__law_mix ws S K) (hl : ws.length = 2) : t__law_mix (EndK K) (startL 4 ws) S := by
  unfold sp__law_mix at h
  obtain ⟨c, t, rfl, h⟩ := h
  kat_tups
  exact h _ (Int.emod_nonneg _ (by decide)) (Int.emod_lt_of_pos _ (by decide))
theorem c__law_mix {c t : Int} {S : Store} {K : WK} (h : ∀ r, 0 ≤ r → r < 2147483563 → K (.int r) S) : sp__law_mix [.int c, .int t] S K := by unfold sp__law_mix; exact ⟨c, t, rfl, h⟩
def FlowOk (S : Store) (n m : Nat) : Prop := ∃ (cells : List Int) (p r l d seed : Int), S[n]? = some (.lst [.ref m, .int p, .int r, .int l, .int d, .int seed]) ∧ IsLst S m (cells.map W.int) ∧ m ≠ n ∧ 0 ≤ p
theorem flow_set {S : Store} {n m : Nat} {cells : List Int} {p r l d seed p' r' l' d' seed' : Int} (h1 : S[n]? = some (.lst [.ref m, .int p, .int r, .int l, .int d, .int seed])) (h2 : IsLst S m (cells.map W.int)) (h3 : m ≠ n) (h4 : 0 ≤ p') :
    FlowOk (S.set n (.lst [.ref m, .int p', .int r', .int l', .int d', .int seed'])) n m :=
  ⟨cells, p', r', l', d', seed', List.getElem?_set_self (lt_of_get h1), Keep.lst (ms := [n]) (Keep.set _ _ _) (by simpa using h3) h2, h3, h4⟩
@[irreducible] def sp__law_flow : ZC := fun ws S K => ∃ (s : Nat) (ns : List Int), ws = [.ref s] ∧ IsLst S s (ns.map W.int) ∧ ∀ n m S', Ext S S' → FlowOk S' n m → K (.ref n) S'
theorem cut_ints (ns : List Int) (lo hi : Option Int) : cut (ns.map W.int) lo hi = (cut ns lo hi).map W.int := by
  unfold cut; simp [List.map_take, List.map_drop]
theorem u__law_flow (ws : List W) (S : Store) (K : WK) (h : sp__law_flow ws S K) (hl : ws.length = 1) : t__law_flow sp__law_mix (EndK K) (startL 3 ws) S := by
  unfold sp__law_flow at h
  obtain ⟨s, ns, rfl, hs, h⟩ := h
  kat_tups
  rw [cut_ints]
  refine forI (fun i L S1 => ∃ (sd : Int) (x : Option W), L = [some (.ref s), some (.int sd), x] ∧ S1 = S ++ [.lst ((cut ns none (some 63)).map W.int)]) ⟨_, _, rfl, rfl⟩ ?_ ?_ ?_
  · rintro i L S1 ⟨sd, x, rfl, rfl⟩
    allgen_close_more
  · rintro i w L S1 hw ⟨sd, x, rfl, rfl⟩
    rw [List.getElem?_map] at hw
    obtain ⟨c, hc, rfl⟩ := Option.map_eq_some_iff.mp hw
    keq_rows
    refine c__law_mix fun r h1 h2 => ?_
    keq_rows
    exact ⟨_, _, rfl, rfl⟩
  · rintro L S1 ⟨sd, x, rfl, rfl⟩
    have hs1 := Ext.lst (Keep.app [] S [.lst ((cut ns none (some 63)).map W.int)]) hs
    keq_rows
    have e := cut_ints ns none (some 63)
    rw [e]
    refine h _ _ _ (((Keep.app [] _ _).trans (Keep.app [] _ _)).trans (Keep.app [] _ _)) ⟨cut ns none (some 63), 0, 0, 0, 0, sd, (app_get0 _ _).trans rfl, ?_, ?_, Int.le_refl 0⟩
    · rw [List.append_assoc (S ++ _)]; exact getL_app00 _ _ _
    · simp
@[irreducible] def sp__law_draw : ZC := fun ws S K => ∃ n m many, ws = [.ref n, .int many] ∧ FlowOk S n m ∧ 0 < many ∧ many < 18446744073709551616 ∧ ∀ r S', 0 ≤ r → r < many → Keep [n] S S' → FlowOk S' n m → K (.int r) S'
theorem u__law_draw (ws : List W) (S : Store) (K : WK) (h : sp__law_draw ws S K) (hl : ws.length = 2) : t__law_draw sp__law_mix (EndK K) (startL 4 ws) S := by
  unfold sp__law_draw at h
  obtain ⟨n, m, many, rfl, ⟨cells, p, r, l, d, seed, h1, h2, h3, h4⟩, h5, h6, h⟩ := h
  kat_tups
  kbo_bools
  · keq_rows
    kbo_bools
    · keq_rows
      kbo_bools
      · keq_rows
        refine c__law_mix fun r _ _ => ?_
        keq_rows
        exact h _ _ (Int.emod_nonneg _ (by omega)) (Int.emod_lt_of_pos _ h5) (Keep.set _ _ _) (flow_set h1 h2 h3 (by omega))
      · keq_rows
        exact h _ _ (Int.emod_nonneg _ (by omega)) (Int.emod_lt_of_pos _ h5) (Keep.set _ _ _) (flow_set h1 h2 h3 (by omega))
    · keq_rows
      refine c__law_mix fun r _ _ => ?_
      keq_rows
      exact h _ _ (Int.emod_nonneg _ (by omega)) (Int.emod_lt_of_pos _ h5) (Keep.set _ _ _) (flow_set h1 h2 h3 (by omega))
  · keq_rows
    exact h _ _ (Int.emod_nonneg _ (by omega)) (Int.emod_lt_of_pos _ h5) (Keep.set _ _ _) (flow_set h1 h2 h3 (by omega))
theorem c__law_draw {n m : Nat} {many : Int} {S : Store} {K : WK} (h1 : FlowOk S n m) (h2 : 0 < many) (h3 : many < 18446744073709551616) (h : ∀ r S', 0 ≤ r → r < many → Keep [n] S S' → FlowOk S' n m → K (.int r) S') : sp__law_draw [.ref n, .int many] S K := by unfold sp__law_draw; exact ⟨n, m, many, rfl, h1, h2, h3, h⟩
/-- things[_law_draw(flow, len(things))] over a written tuple -/
@[irreducible] def sp__law_one : ZC := fun ws S K => ∃ n m xs, ws = [.ref n, .tup xs] ∧ FlowOk S n m ∧ 0 < xs.length ∧ xs.length < 1000000000 ∧ ∀ x S', x ∈ xs → Keep [n] S S' → FlowOk S' n m → K x S'
theorem u__law_one (ws : List W) (S : Store) (K : WK) (h : sp__law_one ws S K) (hl : ws.length = 2) : t__law_one sp__law_draw (EndK K) (startL 2 ws) S := by
  unfold sp__law_one at h
  obtain ⟨n, m, xs, rfl, h1, h2, h3, h⟩ := h
  kat_tups
  refine c__law_draw h1 (by omega) (by omega) fun r S' a b c d => ?_
  obtain ⟨k, rfl⟩ : ∃ k : Nat, r = (k : Int) := ⟨r.toNat, by omega⟩
  have h4 : k < xs.length := by omega
  have h5 : xs[k]? = some xs[k] := List.getElem?_eq_getElem h4
  keq_rows
  exact h _ _ (List.getElem_mem h4) c d
@[irreducible] def sp__law_same (d : Nat) : ZC := fun ws S K => ∃ x, ws = [x, x] ∧ Pl d x ∧ ∀ S', Ext S S' → K (.bl true) S'
theorem c__law_same {d : Nat} {x : W} {S : Store} {K : WK} (h1 : Pl d x) (h : ∀ S', Ext S S' → K (.bl true) S') : sp__law_same d [x, x] S K := by unfold sp__law_same; exact ⟨x, rfl, h1, h⟩
theorem u__law_same (d : Nat) (sp : ZC) (hs : ∀ (e : Nat), d = e + 1 → sp = sp__law_same e) (ws : List W) (S : Store) (K : WK) (h : sp__law_same d ws S K) (hl : ws.length = 2) : t__law_same sp (EndK K) (startL 3 ws) S := by
  unfold sp__law_same at h
  obtain ⟨x, rfl, hp, h⟩ := h
  cases hp with
  | non => kat_tups; exact h _ (Keep.refl _ _)
  | bl => kat_tups; simpa using h _ (Keep.refl _ _)
  | int => kat_tups; simpa using h _ (Keep.refl _ _)
  | str => kat_tups; simpa using h _ (Keep.refl _ _)
  | @tup d xs hz hp =>
    cases hs _ rfl
    kat_tups
    refine lcF (fun _ => none) (fun _ _ => trivial) (by rw [rangeW_length]; exact s_sz (by omega)) ?_ ?_
    · intro i w S2 Kt Kf hw k hK hK'
      obtain ⟨hi, rfl⟩ := rangeW_inv0 hw
      have e : xs[i]? = some xs[i] := List.getElem?_eq_getElem (by omega)
      keq_rows
      refine c__law_same (hp.get e) fun S' k' => ?_
      keq_rows
      exact hK' _ rfl k'
    · intro S2 k h2
      rw [show ∀ ys : List W, ys.filterMap (fun _ => (none : Option W)) = [] from fun ys => by induction ys with | nil => rfl | cons y ys ih => exact ih] at h2
      keq_rows
      exact h _ k
theorem c__law_sameE {d : Nat} {x y : W} {S : Store} {K : WK} (e : x = y) (h1 : Pl d x) (h : ∀ S', Ext S S' → K (.bl true) S') : sp__law_same d [x, y] S K := e ▸ c__law_same h1 h
theorem c__law_one {n m : Nat} {xs : List W} {S : Store} {K : WK} (h1 : FlowOk S n m) (h2 : 0 < xs.length) (h3 : xs.length < 1000000000) (h : ∀ x S', x ∈ xs → Keep [n] S S' → FlowOk S' n m → K x S') : sp__law_one [.ref n, .tup xs] S K := by unfold sp__law_one; exact ⟨n, m, xs, rfl, h1, h2, h3, h⟩
theorem c__law_flow {s : Nat} {ns : List Int} {S : Store} {K : WK} (h1 : IsLst S s (ns.map W.int)) (h : ∀ n m S', Ext S S' → FlowOk S' n m → K (.ref n) S') : sp__law_flow [.ref s] S K := by unfold sp__law_flow; exact ⟨s, ns, rfl, h1, h⟩
theorem FlowOk.lt {S : Store} {n m : Nat} (h : FlowOk S n m) : n < S.length ∧ m < S.length ∧ m ≠ n := by
  obtain ⟨cells, p, r, l, d, seed, h1, h2, h3, h4⟩ := h
  exact ⟨lt_of_get h1, (isL.mp h2).elim lt_of_get lt_of_get, h3⟩
theorem FlowOk.keep {ms : List Nat} {S S' : Store} {n m : Nat} (h : FlowOk S n m) (k : Keep ms S S') (hn : n ∉ ms) (hm : m ∉ ms) : FlowOk S' n m := by
  obtain ⟨cells, p, r, l, d, seed, h1, h2, h3, h4⟩ := h
  exact ⟨cells, p, r, l, d, seed, k _ _ hn h1, k.lst hm h2, h3, h4⟩
theorem FlowOk.ext {S S' : Store} {n m : Nat} (h : FlowOk S n m) (k : Ext S S') : FlowOk S' n m := h.keep k (by simp) (by simp)
/-- a list of drawn numbers -/
theorem lcDraw {n m : Nat} {many : Int} {its : List W} {G : Store → Prop} {g : ZTG} {tt : ZT} {te : ZE} {vs : List Nat} {L : Loc'} {S1 : Store} {K : WK} (hf : FlowOk S1 n m) (hG : ∀ S, Keep [n] S1 S → G S) (hsz : its.length ≤ sizeLine)
    (turn : ∀ (i : Nat) (w : W) (S2 : Store) (Kt : WK) (Kf : Store → Prop), its[i]? = some w → FlowOk S2 n m → Keep [n] S1 S2 → (∀ y S3, Keep [n] S2 S3 → FlowOk S3 n m → 0 ≤ y → y < many → Kt (.int y) S3) →
      qWipe L vs fun L0 => g w L0 S2 fun L' S3 => tt L' S3 fun b S4 => qIf b (te L' S4 Kt) (Kf S4))
    (done : ∀ (ns : List Int) S2, ns.length = its.length → (∀ y ∈ ns, 0 ≤ y ∧ y < many) → FlowOk S2 n m → Keep [n] S1 S2 → S2[S1.length]? = some (.lst (ns.map W.int)) → K (.ref S1.length) S2) : LcEnd ⟨its, G⟩ g tt te vs L S1 K := by
  obtain ⟨l1, l2, l3⟩ := hf.lt
  refine lcI [n] (fun S => FlowOk S n m) (fun i acc => ∃ ns : List Int, acc = ns.map W.int ∧ ns.length = i ∧ ∀ y ∈ ns, 0 ≤ y ∧ y < many) (by simp; omega) (by simp; omega) (fun S o h _ => ?_) (hf.ext (Keep.app _ _ _)) hG ⟨[], rfl, rfl, by simp⟩ ?_ ?_ ?_
  · obtain ⟨cells, p, r, l, d, seed, h1, h2, h3, h4⟩ := h
    exact ⟨cells, p, r, l, d, seed, by rw [List.getElem?_set_ne (by omega)]; exact h1, by unfold IsLst; rw [getL_set_ne (by omega)]; exact h2, h3, h4⟩
  · rintro i acc hi ⟨ns, rfl, hl, _⟩
    rw [List.length_map]
    omega
  · rintro i acc w S2 Kt Kf hw ⟨ns, rfl, hl, hy⟩ h2 h3 _ hK _
    refine turn i w S2 Kt Kf hw h2 h3 fun y S3 k3 f3 y1 y2 => hK _ _ k3 f3 ⟨ns ++ [y], by simp, by simp [hl], ?_⟩
    intro x hx
    rcases List.mem_append.mp hx with hx | hx
    · exact hy x hx
    · rw [List.mem_singleton.mp hx]; exact ⟨y1, y2⟩
  · rintro acc S2 ⟨ns, rfl, hl, hy⟩ h2 h3 h4
    exact done ns S2 hl hy h2 h3 h4
end FA

set_option maxHeartbeats 2000000
/-! Z11: what the module's top has written; a law's end. -/
namespace Z
open PySem PySem.Spec PyProof.Rows L2
structure DefAt (K : PySem.W.Frag) (x : Str) (st : Stmt) : Prop where
  ex : ∃ (f : Addr) (oc : Value) (od an : Option Addr) (osl : Array (Option Value)) (kV doc pm cdv ct : Value), PySem.W.nsIn K mainGlobals x = some (some (.ref f)) ∧
    K.lookup f = some ⟨oc, od, .func (PySem.W.fnOf x x (defArgs st) (defBody st) (defScope st) .none kV doc pm an cdv ct), osl⟩ ∧ PySem.W.codeIn K cdv x = true ∧ PySem.W.keepIn K (.ref f) = true
theorem defAt {K : PySem.W.Frag} {x : Str} {st : Stmt} {f : Addr} {oc : Value} {od an : Option Addr} {osl : Array (Option Value)} {kV doc pm cdv ct : Value} (a : PySem.W.nsIn K mainGlobals x = some (some (.ref f)))
    (l : K.lookup f = some ⟨oc, od, .func (PySem.W.fnOf x x (defArgs st) (defBody st) (defScope st) .none kV doc pm an cdv ct), osl⟩) (c : PySem.W.codeIn K cdv x = true) (k : PySem.W.keepIn K (.ref f) = true) : DefAt K x st :=
  ⟨f, oc, od, an, osl, kV, doc, pm, cdv, ct, a, l, c, k⟩
theorem DefAt.fn {K : PySem.W.Frag} {x : Str} {st : Stmt} {h : Heap} {mg : Str → Option Value} (d : DefAt K x st) (X : K.In h) (G : h.Ns mainGlobals mg) : ∃ (f : Addr) (fd : FuncData), Fun K x x st f fd ∧ mg x = some (.ref f) := by
  obtain ⟨f, oc, od, an, osl, kV, doc, pm, cdv, ct, a, l, c, k⟩ := d.ex
  exact ⟨f, _, fun_mk l c k, PySem.W.mg_of X G a⟩
theorem bind1 {K : PySem.W.Frag} {x qual : Str} {st : Stmt} {f : Addr} {fd : FuncData} {p : Str} (F : Fun K x qual st f fd)
    (h : ∀ (kV doc pm : Value) (an : Option Addr) (cdv ct u : Value), bindArgs (PySem.W.fnOf x qual (defArgs st) (defBody st) (defScope st) .none kV doc pm an cdv ct) ⟨[u], []⟩ = pure [(p, u)]) (s : Shared) (v : Value) : BindsTo s fd ⟨[v], []⟩ [(p, v)] := by
  obtain ⟨oc, od, kV, doc, pm, an, cdv, ct, osl, rfl, lk, hcd⟩ := F.ex
  exact .of_eq (h kV doc pm an cdv ct v)
theorem bindsK {K : PySem.W.Frag} {x qual : Str} {st : Stmt} {f : Addr} {fd : FuncData} {ps ks : List Str} {perm : List Nat} (F : Fun K x qual st f fd)
    (h : ∀ (kV doc pm : Value) (an : Option Addr) (cdv ct : Value) (ws : List Value), (pick perm ws).length = ps.length → bindArgs (PySem.W.fnOf x qual (defArgs st) (defBody st) (defScope st) .none kV doc pm an cdv ct) ⟨[], ks.zip ws⟩ = pure (ps.zip (pick perm ws))) (s : Shared) (ws : List Value)
    (hl : (pick perm ws).length = ps.length) : BindsTo s fd ⟨[], ks.zip ws⟩ (ps.zip (pick perm ws)) := by
  obtain ⟨oc, od, kV, doc, pm, an, cdv, ct, osl, rfl, lk, hcd⟩ := F.ex
  exact .of_eq (h kV doc pm an cdv ct ws hl)
def spZ (K : PySem.W.Frag) : Sp := fun vs H Q _ => ∃ (a : Addr) (ns : List Int), vs = [.ref a] ∧ ns.length ≤ 63 ∧ Only H ∧ SqL K H a (ns.map V.int) ∧ ∀ H', Q (.bl true) H'
theorem law_spZ {K : PySem.W.Frag} {P : Program} {w : World} {mg : Str → Option Value} {base : Heap} {k : Nat} {f : Addr} {fd : FuncData} {sp : ZC}
    (F : ZFn P w K mg base [] k f fd ["script"] sp) (h : ∀ ns : List Int, ns.length ≤ 63 → ∀ Kc : WK, (∀ S', Kc (.bl true) S') → sp [.ref 0] [.frz (ns.map W.int)] Kc) : FnOk P w K mg base CX0 k f fd ["script"] (spZ K) := law_z F h
end Z

set_option maxHeartbeats 4000000
namespace L56
open PySem PySem.Spec PyProof.Rows L2 Z
def topS (i : Nat) : Stmt := PySem.Challenge.pw_whoseitis_k56_stages_in_rows.main.body.getD i (.Pass ⟨0, 0, 0, 0⟩)
/-- the built-ins are not the module's names -/
structure Bl (mg : Str → Option Value) : Prop where
  abs : mg "abs" = none
  bool : mg "bool" = none
  int : mg "int" = none
  isinstance : mg "isinstance" = none
  len : mg "len" = none
  max : mg "max" = none
  range : mg "range" = none
  sorted : mg "sorted" = none
  str : mg "str" = none
  tuple : mg "tuple" = none
abbrev s_stages : Stmt := topS 1
abbrev nN_stages : List Str := ["term", "day", "has_finder", "keep", "finder", "sale", "found", "begin"]
theorem sc_stages : FnScope nN_stages ["term", "day", "has_finder"] (defScope s_stages) := ⟨rfl, rfl, rfl, by decide +kernel, rfl, by decide +kernel, by decide +kernel⟩
def t_stages : ZS :=
    (zSeq (zAsg (zVar 0) (zgTup 3 (zgCons (zgName 3) (zgCons (zgName 4) (zgCons (zgName 5) zgNil)))))
    (zSeq (zAsg (zLst (zCons (zTup (zCons (zVar 1) (zCons (zC (.str "loser")) zNil))) zNil)) (zgName 6))
    (zSeq (zAsg (zOp qAdd (zOp qAdd (zVar 1) (zVar 3)) (zC (.int 1))) (zgName 7))
    (zSeq (zIfS (zAnd (zTru (zVar 2)) (zTb (zOp qGt (zVar 4) (zC (.int 0))))) (zSeq (zDrop (zMl qAppend (zVar 6) (zCons (zTup (zCons (zVar 7) (zCons (zC (.str "finder")) zNil))) zNil)))
    (zAug 7 (zVar 4) qIAdd)) zNext)
    (zSeq (zIfS (zTb (zOp qGt (zVar 5) (zC (.int 0)))) (zSeq (zDrop (zMl qAppend (zVar 6) (zCons (zTup (zCons (zVar 7) (zCons (zC (.str "sale")) zNil))) zNil)))
    (zAug 7 (zVar 5) qIAdd)) zNext)
    (zSeq (zDrop (zMl qAppend (zVar 6) (zCons (zTup (zCons (zVar 7) (zCons (zC (.str "house")) zNil))) zNil)))
    (zRet (zCall qTup (zCons (zVar 6) zNil)))))))))
theorem b_stages {P : Program} {w : World} {K : PySem.W.Frag} {mg : Str → Option Value} {base : Heap} {TB : List Addr} {k : Nat} {f : Addr} (hB : Bl mg) (cdv : Value) (A : Around) (outer : List Env) (s : Shared) (H : Hp) (E : XK)
    (hr : Room k (A.deeper (envOfC "stages" (defScope s_stages) s.heap.objs.size f cdv))) : ZPSs TB (cxOf CX0 P w K mg base nN_stages "stages" (defScope s_stages) f cdv A outer s H E).nox (defBody s_stages) (t_stages ) := by
  have nd := sc_stages.nd
  have h : ∃ t, ZPSs TB (cxOf CX0 P w K mg base nN_stages "stages" (defScope s_stages) f cdv A outer s H E).nox (defBody s_stages) t ∧ t = t_stages  := ⟨_, (zs_cons (z_asg (z_var 0) (zg_tup (n := 3) rfl (zgs_cons (zg_name (i := 3) nd rfl (Or.inl rfl)) (zgs_cons (zg_name (i := 4) nd rfl (Or.inl rfl)) (zgs_cons (zg_name (i := 5) nd rfl (Or.inl rfl)) zgs_nil)))))
    (zs_cons (z_set (i := 6) nd rfl (Or.inl rfl) (z_lst (zpa_cons (z_tup (zpa_cons (z_var 1) (zpa_cons z_str zpa_nil))) zpa_nil)))
    (zs_cons (z_set (i := 7) nd rfl (Or.inl rfl) (z_op zo_add (z_op zo_add (z_var 1) (z_var 3)) z_int))
    (zs_cons (z_ifS (ZPW.zt (zw_and (z_truth (z_var 2)) (zw_and1 (z_tcmp zo_gt (z_var 4) z_int (nomark _))))) (zs_cons (z_expr (z_ml PySem.F.slot_list_append PySem.F.type_list_append zm_append (z_var 6) (zpa_cons (z_tup (zpa_cons (z_var 7) (zpa_cons z_str zpa_nil))) zpa_nil)))
    (zs_one (z_aug (i := 7) nd rfl (Or.inl rfl) (z_var 4) zip_add))) zs_nil)
    (zs_cons (z_ifS (z_tcmp zo_gt (z_var 5) z_int (nomark _)) (zs_cons (z_expr (z_ml PySem.F.slot_list_append PySem.F.type_list_append zm_append (z_var 6) (zpa_cons (z_tup (zpa_cons (z_var 7) (zpa_cons z_str zpa_nil))) zpa_nil)))
    (zs_one (z_aug (i := 7) nd rfl (Or.inl rfl) (z_var 5) zip_add))) zs_nil)
    (zs_cons (z_expr (z_ml PySem.F.slot_list_append PySem.F.type_list_append zm_append (z_var 6) (zpa_cons (z_tup (zpa_cons (z_var 7) (zpa_cons z_str zpa_nil))) zpa_nil)))
    (zs_one (z_ret (z_callTy zc_tup (by rfl) hB.tuple (by decide +kernel) (zpa_cons (z_var 6) zpa_nil)))))))))), rfl⟩
  obtain ⟨_, h, rfl⟩ := h
  exact h
abbrev s_stage_on : Stmt := topS 2
abbrev nN_stage_on : List Str := ["term", "day", "has_finder", "asked_day", "stage", "first", "name"]
theorem sc_stage_on : FnScope nN_stage_on ["term", "day", "has_finder", "asked_day"] (defScope s_stage_on) := ⟨rfl, rfl, rfl, by decide +kernel, rfl, by decide +kernel, by decide +kernel⟩
def t_stage_on (sp_stages : ZC) : ZS :=
    (zSeq (zAsg (zC (.str "")) (zgName 4))
    (zSeq (zFor (zSeqI (zCallF 3 sp_stages (zCons (zVar 0) (zCons (zVar 1) (zCons (zVar 2) zNil))))) (zgTup 2 (zgCons (zgName 5) (zgCons (zgName 6) zgNil))) (zIfS (zTb (zOp qLeI (zVar 5) (zVar 3))) (zAsg (zVar 6) (zgName 4)) zNext))
    (zRet (zVar 4))))
theorem b_stage_on {P : Program} {w : World} {K : PySem.W.Frag} {mg : Str → Option Value} {base : Heap} {TB : List Addr} {k : Nat} {f : Addr} {sp_stages : ZC} (c_stages : Cal P w K mg base TB k "stages" 3 sp_stages) (cdv : Value) (A : Around) (outer : List Env) (s : Shared) (H : Hp) (E : XK)
    (hr : Room k (A.deeper (envOfC "stage_on" (defScope s_stage_on) s.heap.objs.size f cdv))) : ZPSs TB (cxOf CX0 P w K mg base nN_stage_on "stage_on" (defScope s_stage_on) f cdv A outer s H E).nox (defBody s_stage_on) (t_stage_on sp_stages) := by
  have nd := sc_stage_on.nd
  have h : ∃ t, ZPSs TB (cxOf CX0 P w K mg base nN_stage_on "stage_on" (defScope s_stage_on) f cdv A outer s H E).nox (defBody s_stage_on) t ∧ t = t_stage_on sp_stages := ⟨_, (zs_cons (z_set (i := 4) nd rfl (Or.inl rfl) z_str)
    (zs_cons (z_for PassesOwn.never rfl (zi_seq (z_cal c_stages hr rfl (zpa_cons (z_var 0) (zpa_cons (z_var 1) (zpa_cons (z_var 2) zpa_nil))))) (zg_tup (n := 2) rfl (zgs_cons (zg_name (i := 5) nd rfl (Or.inl rfl)) (zgs_cons (zg_name (i := 6) nd rfl (Or.inl rfl)) zgs_nil))) (zs_one (z_ifS (z_tcmp zo_le (z_var 5) (z_var 3) (nomark _)) (zs_one (z_set (i := 4) nd rfl (Or.inl rfl) (z_var 6))) zs_nil)))
    (zs_one (z_ret (z_var 4))))), rfl⟩
  obtain ⟨_, h, rfl⟩ := h
  exact h
abbrev s__law_mix : Stmt := topS 4
abbrev nN__law_mix : List Str := ["cell", "turn", "one", "two"]
theorem sc__law_mix : FnScope nN__law_mix ["cell", "turn"] (defScope s__law_mix) := ⟨rfl, rfl, rfl, by decide +kernel, rfl, by decide +kernel, by decide +kernel⟩
def t__law_mix : ZS :=
    (zSeq (zAsg (zOp qMod (zCall qInt (zCons (zOp qAdd (zOp qAdd (zOp qMul (zVar 0) (zC (.int 75403))) (zOp qMul (zVar 1) (zC (.int 50021)))) (zC (.int 877))) zNil)) (zC (.int 2147483629))) (zgName 2))
    (zSeq (zAsg (zOp qMod (zCall qInt (zCons (zOp qAdd (zOp qAdd (zOp qMul (zVar 2) (zVar 2)) (zOp qMul (zVar 1) (zC (.int 30011)))) (zOp qDiv (zVar 2) (zC (.int 11)))) zNil)) (zC (.int 2147483587))) (zgName 3))
    (zRet (zOp qMod (zCall qInt (zCons (zOp qAdd (zOp qAdd (zOp qMul (zVar 3) (zVar 3)) (zOp qDiv (zVar 3) (zC (.int 13)))) (zVar 1)) zNil)) (zC (.int 2147483563))))))
theorem b__law_mix {P : Program} {w : World} {K : PySem.W.Frag} {mg : Str → Option Value} {base : Heap} {TB : List Addr} {k : Nat} {f : Addr} (hB : Bl mg) (cdv : Value) (A : Around) (outer : List Env) (s : Shared) (H : Hp) (E : XK)
    (hr : Room k (A.deeper (envOfC "_law_mix" (defScope s__law_mix) s.heap.objs.size f cdv))) : ZPSs TB (cxOf CX0 P w K mg base nN__law_mix "_law_mix" (defScope s__law_mix) f cdv A outer s H E).nox (defBody s__law_mix) (t__law_mix ) := by
  have nd := sc__law_mix.nd
  have h : ∃ t, ZPSs TB (cxOf CX0 P w K mg base nN__law_mix "_law_mix" (defScope s__law_mix) f cdv A outer s H E).nox (defBody s__law_mix) t ∧ t = t__law_mix  := ⟨_, (zs_cons (z_set (i := 2) nd rfl (Or.inl rfl) (z_op zo_mod (z_callTy zc_int (by rfl) hB.int (by decide +kernel) (zpa_cons (z_op zo_add (z_op zo_add (z_op zo_mul (z_var 0) z_int) (z_op zo_mul (z_var 1) z_int)) z_int) zpa_nil)) z_int))
    (zs_cons (z_set (i := 3) nd rfl (Or.inl rfl) (z_op zo_mod (z_callTy zc_int (by rfl) hB.int (by decide +kernel) (zpa_cons (z_op zo_add (z_op zo_add (z_op zo_mul (z_var 2) (z_var 2)) (z_op zo_mul (z_var 1) z_int)) (z_op zo_div (z_var 2) z_int)) zpa_nil)) z_int))
    (zs_one (z_ret (z_op zo_mod (z_callTy zc_int (by rfl) hB.int (by decide +kernel) (zpa_cons (z_op zo_add (z_op zo_add (z_op zo_mul (z_var 3) (z_var 3)) (z_op zo_div (z_var 3) z_int)) (z_var 1)) zpa_nil)) z_int))))), rfl⟩
  obtain ⟨_, h, rfl⟩ := h
  exact h
abbrev s__law_flow : Stmt := topS 5
abbrev nN__law_flow : List Str := ["script", "seed", "cell"]
theorem sc__law_flow : FnScope nN__law_flow ["script"] (defScope s__law_flow) := ⟨rfl, rfl, rfl, by decide +kernel, rfl, by decide +kernel, by decide +kernel⟩
def t__law_flow (sp__law_mix : ZC) : ZS :=
    (zSeq (zAsg (zCall qLen (zCons (zVar 0) zNil)) (zgName 1))
    (zSeq (zFor (zSeqI (zSl (zVar 0) zNoPart (zPart (zC (.int 63))))) (zgName 2) (zAsg (zCallF 2 sp__law_mix (zCons (zOp qAdd (zVar 1) (zVar 2)) (zCons (zC (.int 3)) zNil))) (zgName 1)))
    (zRet (zLst (zCons (zSl (zVar 0) zNoPart (zPart (zC (.int 63)))) (zCons (zC (.int 0)) (zCons (zC (.int 0)) (zCons (zC (.int 0)) (zCons (zC (.int 0)) (zCons (zVar 1) zNil))))))))))
theorem b__law_flow {P : Program} {w : World} {K : PySem.W.Frag} {mg : Str → Option Value} {base : Heap} {TB : List Addr} {k : Nat} {f : Addr} {sp__law_mix : ZC} (hB : Bl mg) (c__law_mix : Cal P w K mg base TB k "_law_mix" 2 sp__law_mix) (cdv : Value) (A : Around) (outer : List Env) (s : Shared) (H : Hp) (E : XK)
    (hr : Room k (A.deeper (envOfC "_law_flow" (defScope s__law_flow) s.heap.objs.size f cdv))) : ZPSs TB (cxOf CX0 P w K mg base nN__law_flow "_law_flow" (defScope s__law_flow) f cdv A outer s H E).nox (defBody s__law_flow) (t__law_flow sp__law_mix) := by
  have nd := sc__law_flow.nd
  have h : ∃ t, ZPSs TB (cxOf CX0 P w K mg base nN__law_flow "_law_flow" (defScope s__law_flow) f cdv A outer s H E).nox (defBody s__law_flow) t ∧ t = t__law_flow sp__law_mix := ⟨_, (zs_cons (z_set (i := 1) nd rfl (Or.inl rfl) (z_callB zc_len (by rfl) hB.len (by decide +kernel) (zpa_cons (z_var 0) zpa_nil)))
    (zs_cons (z_for PassesOwn.never rfl (zi_seq (z_sl (z_var 0) zpo_none (zpo_some z_int))) (zg_name (i := 2) nd rfl (Or.inl rfl)) (zs_one (z_set (i := 1) nd rfl (Or.inl rfl) (z_cal c__law_mix hr rfl (zpa_cons (z_op zo_add (z_var 1) (z_var 2)) (zpa_cons z_int zpa_nil))))))
    (zs_one (z_ret (z_lst (zpa_cons (z_sl (z_var 0) zpo_none (zpo_some z_int)) (zpa_cons z_int (zpa_cons z_int (zpa_cons z_int (zpa_cons z_int (zpa_cons (z_var 1) zpa_nil))))))))))), rfl⟩
  obtain ⟨_, h, rfl⟩ := h
  exact h
abbrev s__law_draw : Stmt := topS 6
abbrev nN__law_draw : List Str := ["flow", "many", "cell", "digit"]
theorem sc__law_draw : FnScope nN__law_draw ["flow", "many"] (defScope s__law_draw) := ⟨rfl, rfl, rfl, by decide +kernel, rfl, by decide +kernel, by decide +kernel⟩
def t__law_draw (sp__law_mix : ZC) : ZS :=
    (zSeq (zAsg (zOp qAdd (zOp qIx (zVar 0) (zC (.int 4))) (zC (.int 1))) (zgSub (zVar 0) (zC (.int 4)) qSetL))
    (zSeq (zIfS (zAnd (zTb (zOp (qEq false) (zOp qIx (zVar 0) (zC (.int 3))) (zC (.int 0)))) (zTb (zOp qLt (zOp qIx (zVar 0) (zC (.int 1))) (zCall qLen (zCons (zOp qIx (zVar 0) (zC (.int 0))) zNil))))) (zSeq (zAsg (zCall qAbs (zCons (zCall qInt (zCons (zOp qIx (zOp qIx (zVar 0) (zC (.int 0))) (zOp qIx (zVar 0) (zC (.int 1)))) zNil)) zNil)) (zgName 2))
    (zSeq (zAsg (zOp qAdd (zOp qIx (zVar 0) (zC (.int 1))) (zC (.int 1))) (zgSub (zVar 0) (zC (.int 1)) qSetL))
    (zSeq (zIfS (zTb (zOp qLt (zVar 2) (zOp qPow (zC (.int 10)) (zC (.int 18))))) (zRet (zOp qMod (zCall qInt (zCons (zCallF 2 sp__law_mix (zCons (zVar 2) (zCons (zOp qIx (zVar 0) (zC (.int 4))) zNil))) zNil)) (zVar 1))) zNext)
    (zSeq (zAsg (zVar 2) (zgSub (zVar 0) (zC (.int 2)) qSetL))
    (zAsg (zC (.int 60)) (zgSub (zVar 0) (zC (.int 3)) qSetL)))))) zNext)
    (zSeq (zIfS (zTb (zOp (qEq false) (zOp qIx (zVar 0) (zC (.int 3))) (zC (.int 0)))) (zRet (zOp qMod (zCall qInt (zCons (zCallF 2 sp__law_mix (zCons (zOp qIx (zVar 0) (zC (.int 5))) (zCons (zOp qIx (zVar 0) (zC (.int 4))) zNil))) zNil)) (zVar 1))) zNext)
    (zSeq (zAsg (zOp qMod (zCall qInt (zCons (zOp qIx (zVar 0) (zC (.int 2))) zNil)) (zVar 1)) (zgName 3))
    (zSeq (zAsg (zOp qDiv (zOp qIx (zVar 0) (zC (.int 2))) (zVar 1)) (zgSub (zVar 0) (zC (.int 2)) qSetL))
    (zSeq (zAsg (zOp qMul (zOp qSub (zOp qIx (zVar 0) (zC (.int 3))) (zC (.int 1))) (zCall qInt (zCons (zOp qGt (zOp qIx (zVar 0) (zC (.int 2))) (zC (.int 0))) zNil))) (zgSub (zVar 0) (zC (.int 3)) qSetL))
    (zRet (zVar 3))))))))
theorem b__law_draw {P : Program} {w : World} {K : PySem.W.Frag} {mg : Str → Option Value} {base : Heap} {TB : List Addr} {k : Nat} {f : Addr} {sp__law_mix : ZC} (hB : Bl mg) (c__law_mix : Cal P w K mg base TB k "_law_mix" 2 sp__law_mix) (cdv : Value) (A : Around) (outer : List Env) (s : Shared) (H : Hp) (E : XK)
    (hr : Room k (A.deeper (envOfC "_law_draw" (defScope s__law_draw) s.heap.objs.size f cdv))) : ZPSs TB (cxOf CX0 P w K mg base nN__law_draw "_law_draw" (defScope s__law_draw) f cdv A outer s H E).nox (defBody s__law_draw) (t__law_draw sp__law_mix) := by
  have nd := sc__law_draw.nd
  have h : ∃ t, ZPSs TB (cxOf CX0 P w K mg base nN__law_draw "_law_draw" (defScope s__law_draw) f cdv A outer s H E).nox (defBody s__law_draw) t ∧ t = t__law_draw sp__law_mix := ⟨_, (zs_cons (z_asg (z_op zo_add (z_ix zi_any (z_var 0) z_int (fun _ _ => rfl)) z_int) (zg_subL (z_var 0) z_int))
    (zs_cons (z_ifS (ZPW.zt (zw_and (z_tcmp (zo_eq hr.units) (z_ix zi_any (z_var 0) z_int (fun _ _ => rfl)) z_int (nomark _)) (zw_and1 (z_tcmp (zo_lt hr.units0) (z_ix zi_any (z_var 0) z_int (fun _ _ => rfl)) (z_callB zc_len (by rfl) hB.len (by decide +kernel) (zpa_cons (z_ix zi_any (z_var 0) z_int (fun _ _ => rfl)) zpa_nil)) (nomark _))))) (zs_cons (z_set (i := 2) nd rfl (Or.inl rfl) (z_callB zc_abs (by rfl) hB.abs (by decide +kernel) (zpa_cons (z_callTy zc_int (by rfl) hB.int (by decide +kernel) (zpa_cons (z_ix zi_any (z_ix zi_any (z_var 0) z_int (fun _ _ => rfl)) (z_ix zi_any (z_var 0) z_int (fun _ _ => rfl)) (fun _ _ => rfl)) zpa_nil)) zpa_nil)))
    (zs_cons (z_asg (z_op zo_add (z_ix zi_any (z_var 0) z_int (fun _ _ => rfl)) z_int) (zg_subL (z_var 0) z_int))
    (zs_cons (z_ifS (z_tcmp (zo_lt hr.units0) (z_var 2) (z_op zo_pow z_int z_int) (nomark _)) (zs_one (z_ret (z_op zo_mod (z_callTy zc_int (by rfl) hB.int (by decide +kernel) (zpa_cons (z_cal c__law_mix hr rfl (zpa_cons (z_var 2) (zpa_cons (z_ix zi_any (z_var 0) z_int (fun _ _ => rfl)) zpa_nil))) zpa_nil)) (z_var 1)))) zs_nil)
    (zs_cons (z_asg (z_var 2) (zg_subL (z_var 0) z_int))
    (zs_one (z_asg z_int (zg_subL (z_var 0) z_int))))))) zs_nil)
    (zs_cons (z_ifS (z_tcmp (zo_eq hr.units) (z_ix zi_any (z_var 0) z_int (fun _ _ => rfl)) z_int (nomark _)) (zs_one (z_ret (z_op zo_mod (z_callTy zc_int (by rfl) hB.int (by decide +kernel) (zpa_cons (z_cal c__law_mix hr rfl (zpa_cons (z_ix zi_any (z_var 0) z_int (fun _ _ => rfl)) (zpa_cons (z_ix zi_any (z_var 0) z_int (fun _ _ => rfl)) zpa_nil))) zpa_nil)) (z_var 1)))) zs_nil)
    (zs_cons (z_set (i := 3) nd rfl (Or.inl rfl) (z_op zo_mod (z_callTy zc_int (by rfl) hB.int (by decide +kernel) (zpa_cons (z_ix zi_any (z_var 0) z_int (fun _ _ => rfl)) zpa_nil)) (z_var 1)))
    (zs_cons (z_asg (z_op zo_div (z_ix zi_any (z_var 0) z_int (fun _ _ => rfl)) (z_var 1)) (zg_subL (z_var 0) z_int))
    (zs_cons (z_asg (z_op zo_mul (z_op zo_sub (z_ix zi_any (z_var 0) z_int (fun _ _ => rfl)) z_int) (z_callTy zc_int (by rfl) hB.int (by decide +kernel) (zpa_cons (z_cmp zo_gt (z_ix zi_any (z_var 0) z_int (fun _ _ => rfl)) z_int (nomark _)) zpa_nil))) (zg_subL (z_var 0) z_int))
    (zs_one (z_ret (z_var 3))))))))), rfl⟩
  obtain ⟨_, h, rfl⟩ := h
  exact h
abbrev s__law_one : Stmt := topS 7
abbrev nN__law_one : List Str := ["flow", "things"]
theorem sc__law_one : FnScope nN__law_one ["flow", "things"] (defScope s__law_one) := ⟨rfl, rfl, rfl, by decide +kernel, rfl, by decide +kernel, by decide +kernel⟩
def t__law_one (sp__law_draw : ZC) : ZS :=
    (zRet (zOp qIx (zVar 1) (zCallF 2 sp__law_draw (zCons (zVar 0) (zCons (zCall qLen (zCons (zVar 1) zNil)) zNil)))))
theorem b__law_one {P : Program} {w : World} {K : PySem.W.Frag} {mg : Str → Option Value} {base : Heap} {TB : List Addr} {k : Nat} {f : Addr} {sp__law_draw : ZC} (hB : Bl mg) (c__law_draw : Cal P w K mg base TB k "_law_draw" 2 sp__law_draw) (cdv : Value) (A : Around) (outer : List Env) (s : Shared) (H : Hp) (E : XK)
    (hr : Room k (A.deeper (envOfC "_law_one" (defScope s__law_one) s.heap.objs.size f cdv))) : ZPSs TB (cxOf CX0 P w K mg base nN__law_one "_law_one" (defScope s__law_one) f cdv A outer s H E).nox (defBody s__law_one) (t__law_one sp__law_draw) := by
  have nd := sc__law_one.nd
  have h : ∃ t, ZPSs TB (cxOf CX0 P w K mg base nN__law_one "_law_one" (defScope s__law_one) f cdv A outer s H E).nox (defBody s__law_one) t ∧ t = t__law_one sp__law_draw := ⟨_, (zs_one (z_ret (z_ix zi_any (z_var 1) (z_cal c__law_draw hr rfl (zpa_cons (z_var 0) (zpa_cons (z_callB zc_len (by rfl) hB.len (by decide +kernel) (zpa_cons (z_var 1) zpa_nil)) zpa_nil))) (fun _ _ => rfl)))), rfl⟩
  obtain ⟨_, h, rfl⟩ := h
  exact h
abbrev s__law_same : Stmt := topS 8
abbrev nN__law_same : List Str := ["actual", "due", "k"]
theorem sc__law_same : FnScope nN__law_same ["actual", "due"] (defScope s__law_same) := ⟨rfl, rfl, rfl, by decide +kernel, rfl, by decide +kernel, by decide +kernel⟩
def t__law_same (sp__law_same : ZC) : ZS :=
    (zSeq (zIfS (zTru (zCall qIsi (zCons (zVar 1) (zCons (zC (.ty "tuple")) zNil)))) (zSeq (zIfS (zOr (zNot (zTru (zCall qIsi (zCons (zVar 0) (zCons (zC (.ty "tuple")) zNil))))) (zTb (zOp (qEq true) (zCall qLen (zCons (zVar 0) zNil)) (zCall qLen (zCons (zVar 1) zNil))))) (zRet (zC (.bl false))) zNext)
    (zRet (zOp (qEq false) (zCall qLen (zCons (zLc (zRngI (zCons (zCall qLen (zCons (zVar 1) zNil)) zNil)) (zgName 2) (zNot (zTru (zCallF 2 sp__law_same (zCons (zOp qIx (zVar 0) (zVar 2)) (zCons (zOp qIx (zVar 1) (zVar 2)) zNil))))) (zVar 2) [2]) zNil)) (zC (.int 0))))) zNext)
    (zSeq (zIfS (zTb (zOp (qIsN false) (zVar 1) (zC .non))) (zRet (zOp (qIsN false) (zVar 0) (zC .non))) zNext)
    (zSeq (zIfS (zTru (zCall qIsi (zCons (zVar 1) (zCons (zC (.ty "str")) zNil)))) (zRet (zAndV (zCall qIsi (zCons (zVar 0) (zCons (zC (.ty "str")) zNil))) (zOp (qEq false) (zVar 0) (zVar 1)))) zNext)
    (zSeq (zIfS (zTb (zOp (qEq true) (zCall qIsi (zCons (zVar 1) (zCons (zC (.ty "bool")) zNil))) (zCall qIsi (zCons (zVar 0) (zCons (zC (.ty "bool")) zNil))))) (zRet (zC (.bl false))) zNext)
    (zRet (zAndV (zCall qIsi (zCons (zVar 0) (zCons (zC (.ty "int")) zNil))) (zOp (qEq false) (zVar 0) (zVar 1))))))))
theorem b__law_same {P : Program} {w : World} {K : PySem.W.Frag} {mg : Str → Option Value} {base : Heap} {TB : List Addr} {k : Nat} {f : Addr} {sp__law_same : ZC} (hB : Bl mg) (c__law_same : Cal P w K mg base TB k "_law_same" 2 sp__law_same) (cdv : Value) (A : Around) (outer : List Env) (s : Shared) (H : Hp) (E : XK)
    (hr : Room k (A.deeper (envOfC "_law_same" (defScope s__law_same) s.heap.objs.size f cdv))) : ZPSs TB (cxOf CX0 P w K mg base nN__law_same "_law_same" (defScope s__law_same) f cdv A outer s H E).nox (defBody s__law_same) (t__law_same sp__law_same) := by
  have nd := sc__law_same.nd
  have h : ∃ t, ZPSs TB (cxOf CX0 P w K mg base nN__law_same "_law_same" (defScope s__law_same) f cdv A outer s H E).nox (defBody s__law_same) t ∧ t = t__law_same sp__law_same := ⟨_, (zs_cons (z_ifS (z_truth (z_callB zc_isi (by rfl) hB.isinstance (by decide +kernel) (zpa_cons (z_var 1) (zpa_cons (z_ty (n := "tuple") (by rfl) hB.tuple (by decide +kernel)) zpa_nil)))) (zs_cons (z_ifS (ZPW.zt (zw_or (z_tnot (z_truth (z_callB zc_isi (by rfl) hB.isinstance (by decide +kernel) (zpa_cons (z_var 0) (zpa_cons (z_ty (n := "tuple") (by rfl) hB.tuple (by decide +kernel)) zpa_nil))))) (zw_or1 (z_tcmp (zo_ne hr.units) (z_callB zc_len (by rfl) hB.len (by decide +kernel) (zpa_cons (z_var 0) zpa_nil)) (z_callB zc_len (by rfl) hB.len (by decide +kernel) (zpa_cons (z_var 1) zpa_nil)) (nomark _))))) (zs_one (z_ret z_bl)) zs_nil)
    (zs_one (z_ret (z_cmp (zo_eq hr.units) (z_callB zc_len (by rfl) hB.len (by decide +kernel) (zpa_cons (z_lc (own := [("k", 2)]) rfl nd (zi_range1 (by rfl) hB.range (zpa_cons (z_callB zc_len (by rfl) hB.len (by decide +kernel) (zpa_cons (z_var 1) zpa_nil)) zpa_nil)) (blkOk_by (N := nN__law_same) (sc := defScope s__law_same) (by decide +kernel)) (fun _ _ _ _ _ => (zgc_name (i := 2) nd rfl (Or.inl rfl) (by decide))) (fun _ _ _ _ _ => (zts_one (z_tnot (z_truth (z_cal c__law_same hr rfl (zpa_cons (z_ix zi_any (z_var 0) (z_var 2) (fun _ _ => rfl)) (zpa_cons (z_ix zi_any (z_var 1) (z_var 2) (fun _ _ => rfl)) zpa_nil))))))) (fun _ _ _ _ _ => (z_var 2))) zpa_nil)) z_int (nomark _))))) zs_nil)
    (zs_cons (z_ifS (z_tcmp zo_is (z_var 1) z_non (nomark _)) (zs_one (z_ret (z_cmp zo_is (z_var 0) z_non (nomark _)))) zs_nil)
    (zs_cons (z_ifS (z_truth (z_callB zc_isi (by rfl) hB.isinstance (by decide +kernel) (zpa_cons (z_var 1) (zpa_cons (z_ty (n := "str") (by rfl) hB.str (by decide +kernel)) zpa_nil)))) (zs_one (z_ret (z_and (z_callB zc_isi (by rfl) hB.isinstance (by decide +kernel) (zpa_cons (z_var 0) (zpa_cons (z_ty (n := "str") (by rfl) hB.str (by decide +kernel)) zpa_nil))) (z_one (z_cmp (zo_eq hr.units) (z_var 0) (z_var 1) (nomark _)))))) zs_nil)
    (zs_cons (z_ifS (z_tcmp (zo_ne hr.units) (z_callB zc_isi (by rfl) hB.isinstance (by decide +kernel) (zpa_cons (z_var 1) (zpa_cons (z_ty (n := "bool") (by rfl) hB.bool (by decide +kernel)) zpa_nil))) (z_callB zc_isi (by rfl) hB.isinstance (by decide +kernel) (zpa_cons (z_var 0) (zpa_cons (z_ty (n := "bool") (by rfl) hB.bool (by decide +kernel)) zpa_nil))) (nomark _)) (zs_one (z_ret z_bl)) zs_nil)
    (zs_one (z_ret (z_and (z_callB zc_isi (by rfl) hB.isinstance (by decide +kernel) (zpa_cons (z_var 0) (zpa_cons (z_ty (n := "int") (by rfl) hB.int (by decide +kernel)) zpa_nil))) (z_one (z_cmp (zo_eq hr.units) (z_var 0) (z_var 1) (nomark _)))))))))), rfl⟩
  obtain ⟨_, h, rfl⟩ := h
  exact h
abbrev s__law_stages : Stmt := topS 9
abbrev nN__law_stages : List Str := ["term", "day", "has_finder", "keep", "finder", "sale", "found", "begin", "name", "long"]
theorem sc__law_stages : FnScope nN__law_stages ["term", "day", "has_finder"] (defScope s__law_stages) := ⟨rfl, rfl, rfl, by decide +kernel, rfl, by decide +kernel, by decide +kernel⟩
def t__law_stages : ZS :=
    (zSeq (zAsg (zVar 0) (zgTup 3 (zgCons (zgName 3) (zgCons (zgName 4) (zgCons (zgName 5) zgNil)))))
    (zSeq (zPar 6 7 (zCons (zLst (zCons (zTup (zCons (zVar 1) (zCons (zC (.str "loser")) zNil))) zNil)) (zCons (zOp qAdd (zOp qAdd (zVar 1) (zVar 3)) (zC (.int 1))) zNil)))
    (zSeq (zFor (zSeqI (zTup (zCons (zTup (zCons (zC (.str "finder")) (zCons (zIf (zTru (zVar 2)) (zVar 4) (zC (.int 0))) zNil))) (zCons (zTup (zCons (zC (.str "sale")) (zCons (zVar 5) zNil))) zNil)))) (zgTup 2 (zgCons (zgName 8) (zgCons (zgName 9) zgNil))) (zIfS (zTb (zOp qGt (zVar 9) (zC (.int 0)))) (zSeq (zDrop (zMl qAppend (zVar 6) (zCons (zTup (zCons (zVar 7) (zCons (zVar 8) zNil))) zNil)))
    (zAsg (zOp qAdd (zVar 7) (zVar 9)) (zgName 7))) zNext))
    (zRet (zCall qTup (zCons (zOp qAdd (zVar 6) (zLst (zCons (zTup (zCons (zVar 7) (zCons (zC (.str "house")) zNil))) zNil))) zNil))))))
theorem b__law_stages {P : Program} {w : World} {K : PySem.W.Frag} {mg : Str → Option Value} {base : Heap} {TB : List Addr} {k : Nat} {f : Addr} (hB : Bl mg) (cdv : Value) (A : Around) (outer : List Env) (s : Shared) (H : Hp) (E : XK)
    (hr : Room k (A.deeper (envOfC "_law_stages" (defScope s__law_stages) s.heap.objs.size f cdv))) : ZPSs TB (cxOf CX0 P w K mg base nN__law_stages "_law_stages" (defScope s__law_stages) f cdv A outer s H E).nox (defBody s__law_stages) (t__law_stages ) := by
  have nd := sc__law_stages.nd
  have h : ∃ t, ZPSs TB (cxOf CX0 P w K mg base nN__law_stages "_law_stages" (defScope s__law_stages) f cdv A outer s H E).nox (defBody s__law_stages) t ∧ t = t__law_stages  := ⟨_, (zs_cons (z_asg (z_var 0) (zg_tup (n := 3) rfl (zgs_cons (zg_name (i := 3) nd rfl (Or.inl rfl)) (zgs_cons (zg_name (i := 4) nd rfl (Or.inl rfl)) (zgs_cons (zg_name (i := 5) nd rfl (Or.inl rfl)) zgs_nil)))))
    (zs_cons (z_par (i := 6) (j := 7) rfl nd rfl rfl (by decide) rfl rfl (zpa_cons (z_lst (zpa_cons (z_tup (zpa_cons (z_var 1) (zpa_cons z_str zpa_nil))) zpa_nil)) (zpa_cons (z_op zo_add (z_op zo_add (z_var 1) (z_var 3)) z_int) zpa_nil)) (by rfl))
    (zs_cons (z_for PassesOwn.never rfl (zi_seq (z_tup (zpa_cons (z_tup (zpa_cons z_str (zpa_cons (z_if (z_truth (z_var 2)) (z_var 4) z_int) zpa_nil))) (zpa_cons (z_tup (zpa_cons z_str (zpa_cons (z_var 5) zpa_nil))) zpa_nil)))) (zg_tup (n := 2) rfl (zgs_cons (zg_name (i := 8) nd rfl (Or.inl rfl)) (zgs_cons (zg_name (i := 9) nd rfl (Or.inl rfl)) zgs_nil))) (zs_one (z_ifS (z_tcmp zo_gt (z_var 9) z_int (nomark _)) (zs_cons (z_expr (z_ml PySem.F.slot_list_append PySem.F.type_list_append zm_append (z_var 6) (zpa_cons (z_tup (zpa_cons (z_var 7) (zpa_cons (z_var 8) zpa_nil))) zpa_nil)))
    (zs_one (z_set (i := 7) nd rfl (Or.inl rfl) (z_op zo_add (z_var 7) (z_var 9))))) zs_nil)))
    (zs_one (z_ret (z_callTy zc_tup (by rfl) hB.tuple (by decide +kernel) (zpa_cons (z_op zo_add (z_var 6) (z_lst (zpa_cons (z_tup (zpa_cons (z_var 7) (zpa_cons z_str zpa_nil))) zpa_nil))) zpa_nil))))))), rfl⟩
  obtain ⟨_, h, rfl⟩ := h
  exact h
abbrev s__law_stage : Stmt := topS 10
abbrev nN__law_stage : List Str := ["term", "day", "has_finder", "asked", "some", "first", "name"]
theorem sc__law_stage : FnScope nN__law_stage ["term", "day", "has_finder", "asked"] (defScope s__law_stage) := ⟨rfl, rfl, rfl, by decide +kernel, rfl, by decide +kernel, by decide +kernel⟩
def t__law_stage (sp__law_stages : ZC) : ZS :=
    (zSeq (zAsg (zLc (zSeqI (zCallF 3 sp__law_stages (zCons (zVar 0) (zCons (zVar 1) (zCons (zVar 2) zNil))))) (zgTup 2 (zgCons (zgName 5) (zgCons (zgName 6) zgNil))) (zTb (zOp qLeI (zVar 5) (zVar 3))) (zVar 6) [5, 6]) (zgName 4))
    (zRet (zIf (zTb (zOp (qEq true) (zVar 4) (zLst zNil))) (zOp qIx (zVar 4) (zUn qNeg (zC (.int 1)))) (zC (.str "")))))
theorem b__law_stage {P : Program} {w : World} {K : PySem.W.Frag} {mg : Str → Option Value} {base : Heap} {TB : List Addr} {k : Nat} {f : Addr} {sp__law_stages : ZC} (c__law_stages : Cal P w K mg base TB k "_law_stages" 3 sp__law_stages) (cdv : Value) (A : Around) (outer : List Env) (s : Shared) (H : Hp) (E : XK)
    (hr : Room k (A.deeper (envOfC "_law_stage" (defScope s__law_stage) s.heap.objs.size f cdv))) : ZPSs TB (cxOf CX0 P w K mg base nN__law_stage "_law_stage" (defScope s__law_stage) f cdv A outer s H E).nox (defBody s__law_stage) (t__law_stage sp__law_stages) := by
  have nd := sc__law_stage.nd
  have h : ∃ t, ZPSs TB (cxOf CX0 P w K mg base nN__law_stage "_law_stage" (defScope s__law_stage) f cdv A outer s H E).nox (defBody s__law_stage) t ∧ t = t__law_stage sp__law_stages := ⟨_, (zs_cons (z_setLc (i := 4) (own := [("first", 5), ("name", 6)]) rfl nd rfl rfl (sw_true rfl rfl rfl (by decide +kernel)) (zi_seq (z_cal c__law_stages hr rfl (zpa_cons (z_var 0) (zpa_cons (z_var 1) (zpa_cons (z_var 2) zpa_nil))))) (blkOk_by (N := nN__law_stage) (sc := defScope s__law_stage) (by decide +kernel)) (fun _ _ _ _ _ => (zgc_tup (n := 2) rfl (zgcs_cons (zgc_name (i := 5) nd rfl (Or.inl rfl) (by decide)) (zgcs_cons (zgc_name (i := 6) nd rfl (Or.inl rfl) (by decide)) zgcs_nil)))) (fun _ _ _ _ _ => (zts_one (z_tcmp zo_le (z_var 5) (z_var 3) (nomark _)))) (fun _ _ _ _ _ => (z_var 6)))
    (zs_one (z_ret (z_if (z_tcmp (zo_ne hr.units) (z_var 4) (z_lst zpa_nil) (nomark _)) (z_ix zi_any (z_var 4) (z_un zo_neg z_int) (fun _ _ => rfl)) z_str)))), rfl⟩
  obtain ⟨_, h, rfl⟩ := h
  exact h
abbrev s_law : Stmt := topS 11
abbrev nN_law : List Str := ["script", "flow", "most", "term", "k", "day", "has_finder", "told", "spots", "first", "name", "step", "asked", "names", "last", "more", "longer", "bare", "one"]
theorem sc_law : FnScope nN_law ["script"] (defScope s_law) := ⟨rfl, rfl, rfl, by decide +kernel, rfl, by decide +kernel, by decide +kernel⟩
def t_law (sp__law_flow sp__law_one sp__law_draw sp_stages sp__law_same sp__law_stages sp_stage_on sp__law_stage : ZC) : ZS :=
    (zSeq (zAsg (zCallF 1 sp__law_flow (zCons (zVar 0) zNil)) (zgName 1))
    (zSeq (zAsg (zCallF 2 sp__law_one (zCons (zVar 1) (zCons (zTup (zCons (zC (.int 2)) (zCons (zC (.int 2)) (zCons (zC (.int 30)) (zCons (zC (.int 401)) zNil))))) zNil))) (zgName 2))
    (zSeq (zAsg (zCall qTup (zCons (zLc (zRngI (zCons (zC (.int 3)) zNil)) (zgName 4) (fun _ S K => K true S) (zCallF 2 sp__law_draw (zCons (zVar 1) (zCons (zVar 2) zNil))) [4]) zNil)) (zgName 3))
    (zSeq (zPar 5 6 (zCons (zCallF 2 sp__law_draw (zCons (zVar 1) (zCons (zC (.int 401)) zNil))) (zCons (zOp (qEq false) (zCallF 2 sp__law_draw (zCons (zVar 1) (zCons (zC (.int 2)) zNil))) (zC (.int 0))) zNil)))
    (zSeq (zAsg (zCallF 3 sp_stages (zCons (zVar 3) (zCons (zVar 5) (zCons (zVar 6) zNil)))) (zgName 7))
    (zSeq (zIfS (zNot (zTru (zCallF 2 sp__law_same (zCons (zVar 7) (zCons (zCallF 3 sp__law_stages (zCons (zVar 3) (zCons (zVar 5) (zCons (zVar 6) zNil)))) zNil))))) (zRet (zC (.bl false))) zNext)
    (zSeq (zAsg (zLst zNil) (zgName 8))
    (zSeq (zFor (zSeqI (zVar 7)) (zgTup 2 (zgCons (zgName 9) (zgCons (zgName 10) zgNil))) (zAsg (zOp qAdd (zVar 8) (zLc (zSeqI (zTup (zCons (zUn qNeg (zC (.int 1))) (zCons (zC (.int 0)) (zCons (zC (.int 1)) zNil))))) (zgName 11) (fun _ S K => K true S) (zCall qMax2 (zCons (zC (.int 0)) (zCons (zOp qAdd (zVar 9) (zVar 11)) zNil))) [11])) (zgName 8)))
    (zSeq (zAsg (zLc (zSeqI (zOp qAdd (zVar 8) (zLst (zCons (zC (.int 0)) (zCons (zC (.int 400)) (zCons (zCallF 2 sp__law_draw (zCons (zVar 1) (zCons (zC (.int 401)) zNil))) (zCons (zVar 5) zNil))))))) (zgName 12) (zTb (zOp qLeI (zVar 12) (zC (.int 400)))) (zVar 12) [12]) (zgName 8))
    (zSeq (zAsg (zLst (zCons (zC (.str "")) (zCons (zC (.str "loser")) (zCons (zC (.str "finder")) (zCons (zC (.str "sale")) (zCons (zC (.str "house")) zNil)))))) (zgName 13))
    (zSeq (zAsg (zC (.int 0)) (zgName 14))
    (zSeq (zFor (zSeqI (zCall qSorted (zCons (zVar 8) zNil))) (zgName 12) (zSeq (zAsg (zCallF 4 sp_stage_on (zCons (zVar 3) (zCons (zVar 5) (zCons (zVar 6) (zCons (zVar 12) zNil))))) (zgName 10))
    (zSeq (zIfS (zOr (zNot (zTru (zCallF 2 sp__law_same (zCons (zVar 10) (zCons (zCallF 4 sp__law_stage (zCons (zVar 3) (zCons (zVar 5) (zCons (zVar 6) (zCons (zVar 12) zNil))))) zNil))))) (zTb (zOp qLt (zMl qIndex (zVar 13) (zCons (zVar 10) zNil)) (zVar 14)))) (zRet (zC (.bl false))) zNext)
    (zAsg (zMl qIndex (zVar 13) (zCons (zVar 10) zNil)) (zgName 14)))))
    (zSeq (zIfS (zAnd (zNot (zTru (zVar 6))) (zNot (zTru (zCallF 2 sp__law_same (zCons (zVar 7) (zCons (zCallK 3 [1, 0, 2] sp_stages (zCons (zVar 5) (zCons (zTup (zCons (zOp qIx (zVar 3) (zC (.int 0))) (zCons (zC (.int 0)) (zCons (zOp qIx (zVar 3) (zC (.int 2))) zNil)))) (zCons (zC (.bl true)) zNil)))) zNil)))))) (zRet (zC (.bl false))) zNext)
    (zSeq (zAsg (zCallF 2 sp__law_draw (zCons (zVar 1) (zCons (zOp qSub (zC (.int 401)) (zVar 5)) zNil))) (zgName 11))
    (zSeq (zIfS (zNot (zTru (zCallF 2 sp__law_same (zCons (zCallF 3 sp_stages (zCons (zVar 3) (zCons (zOp qAdd (zVar 5) (zVar 11)) (zCons (zVar 6) zNil)))) (zCons (zCall qTup (zCons (zLc (zSeqI (zVar 7)) (zgTup 2 (zgCons (zgName 9) (zgCons (zgName 10) zgNil))) (fun _ S K => K true S) (zTup (zCons (zOp qAdd (zVar 9) (zVar 11)) (zCons (zVar 10) zNil))) [9, 10]) zNil)) zNil))))) (zRet (zC (.bl false))) zNext)
    (zSeq (zAsg (zCallF 2 sp__law_draw (zCons (zVar 1) (zCons (zOp qSub (zC (.int 401)) (zOp qIx (zVar 3) (zC (.int 0)))) zNil))) (zgName 15))
    (zSeq (zAsg (zCallF 3 sp_stages (zCons (zTup (zCons (zOp qAdd (zOp qIx (zVar 3) (zC (.int 0))) (zVar 15)) (zCons (zOp qIx (zVar 3) (zC (.int 1))) (zCons (zOp qIx (zVar 3) (zC (.int 2))) zNil)))) (zCons (zVar 5) (zCons (zVar 6) zNil)))) (zgName 16))
    (zSeq (zIfS (zNot (zTru (zCallF 2 sp__law_same (zCons (zVar 16) (zCons (zOp qAdd (zSl (zVar 7) zNoPart (zPart (zC (.int 1)))) (zCall qTup (zCons (zLc (zSeqI (zSl (zVar 7) (zPart (zC (.int 1))) zNoPart)) (zgTup 2 (zgCons (zgName 9) (zgCons (zgName 10) zgNil))) (fun _ S K => K true S) (zTup (zCons (zOp qAdd (zVar 9) (zVar 15)) (zCons (zVar 10) zNil))) [9, 10]) zNil))) zNil))))) (zRet (zC (.bl false))) zNext)
    (zSeq (zAsg (zCallF 3 sp_stages (zCons (zTup (zCons (zOp qIx (zVar 3) (zC (.int 0))) (zCons (zOp qIx (zVar 3) (zC (.int 1))) (zCons (zC (.int 0)) zNil)))) (zCons (zVar 5) (zCons (zVar 6) zNil)))) (zgName 17))
    (zSeq (zIfS (zOr (zTb (zOp (qIn false) (zC (.str "sale")) (zLc (zSeqI (zVar 17)) (zgTup 2 (zgCons (zgName 9) (zgCons (zgName 10) zgNil))) (fun _ S K => K true S) (zVar 10) [9, 10]))) (zNot (zTru (zCallF 2 sp__law_same (zCons (zSl (zVar 17) zNoPart (zPart (zUn qNeg (zC (.int 1))))) (zCons (zCall qTup (zCons (zLc (zSeqI (zVar 7)) (zgName 18) (zTb (zOp (qIn false) (zOp qIx (zVar 18) (zC (.int 1))) (zTup (zCons (zC (.str "loser")) (zCons (zC (.str "finder")) zNil))))) (zVar 18) [18]) zNil)) zNil)))))) (zRet (zC (.bl false))) zNext)
    (zRet (zCallF 2 sp__law_same (zCons (zOp qIx (zVar 17) (zUn qNeg (zC (.int 1)))) (zCons (zTup (zCons (zOp qSub (zOp qIx (zOp qIx (zVar 7) (zUn qNeg (zC (.int 1)))) (zC (.int 0))) (zOp qIx (zVar 3) (zC (.int 2)))) (zCons (zC (.str "house")) zNil))) zNil))))))))))))))))))))))))
theorem b_law {P : Program} {w : World} {K : PySem.W.Frag} {mg : Str → Option Value} {base : Heap} {TB : List Addr} {k : Nat} {f : Addr} {sp__law_flow sp__law_one sp__law_draw sp_stages sp__law_same sp__law_stages sp_stage_on sp__law_stage : ZC} (hB : Bl mg) (c__law_flow : Cal P w K mg base TB k "_law_flow" 1 sp__law_flow) (c__law_one : Cal P w K mg base TB k "_law_one" 2 sp__law_one) (c__law_draw : Cal P w K mg base TB k "_law_draw" 2 sp__law_draw) (c_stages : Cal P w K mg base TB k "stages" 3 sp_stages) (c__law_same : Cal P w K mg base TB k "_law_same" 2 sp__law_same) (c__law_stages : Cal P w K mg base TB k "_law_stages" 3 sp__law_stages) (c_stage_on : Cal P w K mg base TB k "stage_on" 4 sp_stage_on) (c__law_stage : Cal P w K mg base TB k "_law_stage" 4 sp__law_stage) (k_stages : CalK P w K mg base TB k "stages" 3 ["day", "term", "has_finder"] [1, 0, 2] sp_stages) (cdv : Value) (A : Around) (outer : List Env) (s : Shared) (H : Hp) (E : XK)
    (hr : Room k (A.deeper (envOfC "law" (defScope s_law) s.heap.objs.size f cdv))) : ZPSs TB (cxOf CX0 P w K mg base nN_law "law" (defScope s_law) f cdv A outer s H E).nox (defBody s_law) (t_law sp__law_flow sp__law_one sp__law_draw sp_stages sp__law_same sp__law_stages sp_stage_on sp__law_stage) := by
  have nd := sc_law.nd
  have h : ∃ t, ZPSs TB (cxOf CX0 P w K mg base nN_law "law" (defScope s_law) f cdv A outer s H E).nox (defBody s_law) t ∧ t = t_law sp__law_flow sp__law_one sp__law_draw sp_stages sp__law_same sp__law_stages sp_stage_on sp__law_stage := ⟨_, (zs_cons (z_set (i := 1) nd rfl (Or.inr rfl) (z_cal c__law_flow hr rfl (zpa_cons (z_var 0) zpa_nil)))
    (zs_cons (z_set (i := 2) nd rfl (Or.inr rfl) (z_cal c__law_one hr rfl (zpa_cons (z_var 1) (zpa_cons (z_tup (zpa_cons z_int (zpa_cons z_int (zpa_cons z_int (zpa_cons z_int zpa_nil))))) zpa_nil))))
    (zs_cons (z_set (i := 3) nd rfl (Or.inl rfl) (z_callTy zc_tup (by rfl) hB.tuple (by decide +kernel) (zpa_cons (z_lc (own := [("k", 4)]) rfl nd (zi_range1 (by rfl) hB.range (zpa_cons z_int zpa_nil)) (blkOk_by (N := nN_law) (sc := defScope s_law) (by decide +kernel)) (fun _ _ _ _ _ => (zgc_name (i := 4) nd rfl (Or.inl rfl) (by decide))) (fun _ _ _ _ _ => zts_nil) (fun _ _ _ _ _ => (z_cal c__law_draw hr rfl (zpa_cons (z_var 1) (zpa_cons (z_var 2) zpa_nil))))) zpa_nil)))
    (zs_cons (z_par (i := 5) (j := 6) rfl nd rfl rfl (by decide) rfl rfl (zpa_cons (z_cal c__law_draw hr rfl (zpa_cons (z_var 1) (zpa_cons z_int zpa_nil))) (zpa_cons (z_cmp (zo_eq hr.units) (z_cal c__law_draw hr rfl (zpa_cons (z_var 1) (zpa_cons z_int zpa_nil))) z_int (nomark _)) zpa_nil)) (by rfl))
    (zs_cons (z_set (i := 7) nd rfl (Or.inl rfl) (z_cal c_stages hr rfl (zpa_cons (z_var 3) (zpa_cons (z_var 5) (zpa_cons (z_var 6) zpa_nil)))))
    (zs_cons (z_ifS (z_tnot (z_truth (z_cal c__law_same hr rfl (zpa_cons (z_var 7) (zpa_cons (z_cal c__law_stages hr rfl (zpa_cons (z_var 3) (zpa_cons (z_var 5) (zpa_cons (z_var 6) zpa_nil)))) zpa_nil))))) (zs_one (z_ret z_bl)) zs_nil)
    (zs_cons (z_set (i := 8) nd rfl (Or.inl rfl) (z_lst zpa_nil))
    (zs_cons (z_for PassesOwn.never rfl (zi_seq (z_var 7)) (zg_tup (n := 2) rfl (zgs_cons (zg_name (i := 9) nd rfl (Or.inr rfl)) (zgs_cons (zg_name (i := 10) nd rfl (Or.inl rfl)) zgs_nil))) (zs_one (z_set (i := 8) nd rfl (Or.inl rfl) (z_op zo_add (z_var 8) (z_lc (own := [("step", 11)]) rfl nd (zi_seq (z_tup (zpa_cons (z_un zo_neg z_int) (zpa_cons z_int (zpa_cons z_int zpa_nil))))) (blkOk_by (N := nN_law) (sc := defScope s_law) (by decide +kernel)) (fun _ _ _ _ _ => (zgc_name (i := 11) nd rfl (Or.inl rfl) (by decide))) (fun _ _ _ _ _ => zts_nil) (fun _ _ _ _ _ => (z_callB (zc_max2 rfl) (by rfl) hB.max (by decide +kernel) (zpa_cons z_int (zpa_cons (z_op zo_add (z_var 9) (z_var 11)) zpa_nil)))))))))
    (zs_cons (z_setLc (i := 8) (own := [("asked", 12)]) rfl nd rfl rfl (sw_true rfl rfl rfl (by decide +kernel)) (zi_seq (z_op zo_add (z_var 8) (z_lst (zpa_cons z_int (zpa_cons z_int (zpa_cons (z_cal c__law_draw hr rfl (zpa_cons (z_var 1) (zpa_cons z_int zpa_nil))) (zpa_cons (z_var 5) zpa_nil))))))) (blkOk_by (N := nN_law) (sc := defScope s_law) (by decide +kernel)) (fun _ _ _ _ _ => (zgc_name (i := 12) nd rfl (Or.inl rfl) (by decide))) (fun _ _ _ _ _ => (zts_one (z_tcmp zo_le (z_var 12) z_int (nomark _)))) (fun _ _ _ _ _ => (z_var 12)))
    (zs_cons (z_set (i := 13) nd rfl (Or.inl rfl) (z_lst (zpa_cons z_str (zpa_cons z_str (zpa_cons z_str (zpa_cons z_str (zpa_cons z_str zpa_nil)))))))
    (zs_cons (z_set (i := 14) nd rfl (Or.inl rfl) z_int)
    (zs_cons (z_for PassesOwn.never rfl (zi_seq (z_callB (zc_sorted hr rfl) (by rfl) hB.sorted (by decide +kernel) (zpa_cons (z_var 8) zpa_nil))) (zg_name (i := 12) nd rfl (Or.inl rfl)) (zs_cons (z_set (i := 10) nd rfl (Or.inl rfl) (z_cal c_stage_on hr rfl (zpa_cons (z_var 3) (zpa_cons (z_var 5) (zpa_cons (z_var 6) (zpa_cons (z_var 12) zpa_nil))))))
    (zs_cons (z_ifS (ZPW.zt (zw_or (z_tnot (z_truth (z_cal c__law_same hr rfl (zpa_cons (z_var 10) (zpa_cons (z_cal c__law_stage hr rfl (zpa_cons (z_var 3) (zpa_cons (z_var 5) (zpa_cons (z_var 6) (zpa_cons (z_var 12) zpa_nil))))) zpa_nil))))) (zw_or1 (z_tcmp (zo_lt hr.units0) (z_ml PySem.F.slot_list_index PySem.F.type_list_index (zm_index (hu65 hr)) (z_var 13) (zpa_cons (z_var 10) zpa_nil)) (z_var 14) (nomark _))))) (zs_one (z_ret z_bl)) zs_nil)
    (zs_one (z_set (i := 14) nd rfl (Or.inl rfl) (z_ml PySem.F.slot_list_index PySem.F.type_list_index (zm_index (hu65 hr)) (z_var 13) (zpa_cons (z_var 10) zpa_nil)))))))
    (zs_cons (z_ifS (ZPW.zt (zw_and (z_tnot (z_truth (z_var 6))) (zw_and1 (z_tnot (z_truth (z_cal c__law_same hr rfl (zpa_cons (z_var 7) (zpa_cons (z_calK k_stages hr rfl (zpk_cons (z_var 5) (zpk_cons (z_tup (zpa_cons (z_ix zi_any (z_var 3) z_int (fun _ _ => rfl)) (zpa_cons z_int (zpa_cons (z_ix zi_any (z_var 3) z_int (fun _ _ => rfl)) zpa_nil)))) (zpk_cons z_bl zpk_nil)))) zpa_nil)))))))) (zs_one (z_ret z_bl)) zs_nil)
    (zs_cons (z_set (i := 11) nd rfl (Or.inr rfl) (z_cal c__law_draw hr rfl (zpa_cons (z_var 1) (zpa_cons (z_op zo_sub z_int (z_var 5)) zpa_nil))))
    (zs_cons (z_ifS (z_tnot (z_truth (z_cal c__law_same hr rfl (zpa_cons (z_cal c_stages hr rfl (zpa_cons (z_var 3) (zpa_cons (z_op zo_add (z_var 5) (z_var 11)) (zpa_cons (z_var 6) zpa_nil)))) (zpa_cons (z_callTy zc_tup (by rfl) hB.tuple (by decide +kernel) (zpa_cons (z_lc (own := [("first", 9), ("name", 10)]) rfl nd (zi_seq (z_var 7)) (blkOk_by (N := nN_law) (sc := defScope s_law) (by decide +kernel)) (fun _ _ _ _ _ => (zgc_tup (n := 2) rfl (zgcs_cons (zgc_name (i := 9) nd rfl (Or.inl rfl) (by decide)) (zgcs_cons (zgc_name (i := 10) nd rfl (Or.inl rfl) (by decide)) zgcs_nil)))) (fun _ _ _ _ _ => zts_nil) (fun _ _ _ _ _ => (z_tup (zpa_cons (z_op zo_add (z_var 9) (z_var 11)) (zpa_cons (z_var 10) zpa_nil))))) zpa_nil)) zpa_nil))))) (zs_one (z_ret z_bl)) zs_nil)
    (zs_cons (z_set (i := 15) nd rfl (Or.inr rfl) (z_cal c__law_draw hr rfl (zpa_cons (z_var 1) (zpa_cons (z_op zo_sub z_int (z_ix zi_any (z_var 3) z_int (fun _ _ => rfl))) zpa_nil))))
    (zs_cons (z_set (i := 16) nd rfl (Or.inl rfl) (z_cal c_stages hr rfl (zpa_cons (z_tup (zpa_cons (z_op zo_add (z_ix zi_any (z_var 3) z_int (fun _ _ => rfl)) (z_var 15)) (zpa_cons (z_ix zi_any (z_var 3) z_int (fun _ _ => rfl)) (zpa_cons (z_ix zi_any (z_var 3) z_int (fun _ _ => rfl)) zpa_nil)))) (zpa_cons (z_var 5) (zpa_cons (z_var 6) zpa_nil)))))
    (zs_cons (z_ifS (z_tnot (z_truth (z_cal c__law_same hr rfl (zpa_cons (z_var 16) (zpa_cons (z_op zo_add (z_sl (z_var 7) zpo_none (zpo_some z_int)) (z_callTy zc_tup (by rfl) hB.tuple (by decide +kernel) (zpa_cons (z_lc (own := [("first", 9), ("name", 10)]) rfl nd (zi_seq (z_sl (z_var 7) (zpo_some z_int) zpo_none)) (blkOk_by (N := nN_law) (sc := defScope s_law) (by decide +kernel)) (fun _ _ _ _ _ => (zgc_tup (n := 2) rfl (zgcs_cons (zgc_name (i := 9) nd rfl (Or.inl rfl) (by decide)) (zgcs_cons (zgc_name (i := 10) nd rfl (Or.inl rfl) (by decide)) zgcs_nil)))) (fun _ _ _ _ _ => zts_nil) (fun _ _ _ _ _ => (z_tup (zpa_cons (z_op zo_add (z_var 9) (z_var 15)) (zpa_cons (z_var 10) zpa_nil))))) zpa_nil))) zpa_nil))))) (zs_one (z_ret z_bl)) zs_nil)
    (zs_cons (z_set (i := 17) nd rfl (Or.inl rfl) (z_cal c_stages hr rfl (zpa_cons (z_tup (zpa_cons (z_ix zi_any (z_var 3) z_int (fun _ _ => rfl)) (zpa_cons (z_ix zi_any (z_var 3) z_int (fun _ _ => rfl)) (zpa_cons z_int zpa_nil)))) (zpa_cons (z_var 5) (zpa_cons (z_var 6) zpa_nil)))))
    (zs_cons (z_ifS (ZPW.zt (zw_or (z_tcmp (zo_in (hu65 hr)) z_str (z_lc (own := [("first", 9), ("name", 10)]) rfl nd (zi_seq (z_var 17)) (blkOk_by (N := nN_law) (sc := defScope s_law) (by decide +kernel)) (fun _ _ _ _ _ => (zgc_tup (n := 2) rfl (zgcs_cons (zgc_name (i := 9) nd rfl (Or.inl rfl) (by decide)) (zgcs_cons (zgc_name (i := 10) nd rfl (Or.inl rfl) (by decide)) zgcs_nil)))) (fun _ _ _ _ _ => zts_nil) (fun _ _ _ _ _ => (z_var 10))) (by rfl)) (zw_or1 (z_tnot (z_truth (z_cal c__law_same hr rfl (zpa_cons (z_sl (z_var 17) zpo_none (zpo_some (z_un zo_neg z_int))) (zpa_cons (z_callTy zc_tup (by rfl) hB.tuple (by decide +kernel) (zpa_cons (z_lc (own := [("one", 18)]) rfl nd (zi_seq (z_var 7)) (blkOk_by (N := nN_law) (sc := defScope s_law) (by decide +kernel)) (fun _ _ _ _ _ => (zgc_name (i := 18) nd rfl (Or.inl rfl) (by decide))) (fun _ _ _ _ _ => (zts_one (z_tcmp (zo_in (hu65 hr)) (z_ix zi_any (z_var 18) z_int (fun _ _ => rfl)) (z_tup (zpa_cons z_str (zpa_cons z_str zpa_nil))) (by rfl)))) (fun _ _ _ _ _ => (z_var 18))) zpa_nil)) zpa_nil)))))))) (zs_one (z_ret z_bl)) zs_nil)
    (zs_one (z_ret (z_cal c__law_same hr rfl (zpa_cons (z_ix zi_any (z_var 17) (z_un zo_neg z_int) (fun _ _ => rfl)) (zpa_cons (z_tup (zpa_cons (z_op zo_sub (z_ix zi_any (z_ix zi_any (z_var 7) (z_un zo_neg z_int) (fun _ _ => rfl)) z_int (fun _ _ => rfl)) (z_ix zi_any (z_var 3) z_int (fun _ _ => rfl))) (zpa_cons z_str zpa_nil))) zpa_nil))))))))))))))))))))))))), rfl⟩
  obtain ⟨_, h, rfl⟩ := h
  exact h
end L56

set_option maxHeartbeats 4000000
namespace L56
open PySem PySem.Spec PyProof.Rows L2 Z FA
local macro_rules | `(tactic| tb_start) => `(tactic| first | assumption | exact True.intro | exact ⟨_, _, rfl, by allgen_close_more⟩ | ((with_reducible refine' MulOk.r ?s1 ?s2); (case s1 => (decide)); (case s2 => (decide))) | ((with_reducible refine' DivOk.small ?s1 ?s2); (case s1 => (decide)); (case s2 => (decide))) | ((with_reducible refine' MulOk.r ?s1 ?s2); (case s1 => (omega)); (case s2 => (omega))) | ((with_reducible refine' MulOk.l ?s1 ?s2); (case s1 => (omega)); (case s2 => (omega))) | ((with_reducible refine' DivOk.small ?s1 ?s2); (case s1 => (omega)); (case s2 => (omega))) | ((with_reducible refine' PowOk.lit ?s1 ?s2 ?s3); (case s1 => (decide)); (case s2 => (decide)); (case s3 => (decide))) | omega | ((with_reducible refine' s_sz ?s1); (case s1 => (first | omega | (simp only [List.length_append, List.length_cons, List.length_nil, List.length_map, List.length_set, List.length_take, List.length_drop, List.length_dropLast] <;> omega)))) | ((with_reducible refine' s_szl ?s1); (case s1 => (first | omega | (simp only [List.length_append, List.length_cons, List.length_nil, List.length_map, List.length_set, List.length_take, List.length_drop, List.length_dropLast] <;> omega)))) | allgen_close_more | allgen_close2_more | decide)
local macro_rules | `(tactic| ke_reads) => `(tactic| first | assumption | exact Ne.symm (by assumption) | omega | (simp only [List.length_append, List.length_cons, List.length_nil, List.length_set] at * <;> omega))
local macro_rules | `(tactic| ked_reads) => `(tactic| first | assumption | ((with_reducible refine' lt_of_get ?s1); (case s1 => (allgen_close2_more))))
local macro_rules | `(tactic| allgen_close2_more) => `(tactic| first | assumption | ((with_reducible refine' List.getElem?_set_self ?s1); (case s1 => (ked_reads))) | ((with_reducible refine' set_ne' ?s1 ?s2); (case s1 => (ke_reads)); (case s2 => (allgen_close2_more))) | exact (app_get0 _ _).trans rfl | exact (app_get _ _ _).trans rfl | ((with_reducible refine' app_l ?s1); (case s1 => (allgen_close2_more))))
local macro_rules | `(tactic| allgen_close_more) => `(tactic| first | assumption | (apply getL_of; assumption) | ((with_reducible refine' getL_set_self ?s1); (case s1 => (ked_reads))) | exact getL_app00 _ _ _ | exact getL_app1 _ _ _ _ | ((with_reducible refine' getL_set_ne' ?s1 ?s2); (case s1 => (ke_reads)); (case s2 => (allgen_close_more))) | ((with_reducible refine' getL_app_l ?s1); (case s1 => (allgen_close_more))) | exact (getL_app _ _ _).trans rfl)
local macro_rules | `(tactic| kqd_all) => `(tactic| first | assumption | (rw [atI_m1]; first | with_unfolding_all rfl | assumption) | (rw [atI_lit]; first | with_unfolding_all rfl | assumption) | (rw [atI_cast]; assumption) | exact atI_ints (by omega) (by simp only [List.length_map] at *; omega))
local macro_rules | `(tactic| kct_strs) => `(tactic| first | assumption | (rw [ixN_lit, if_pos (by simp)]; done))
local macro_rules | `(tactic| kp_flats) => `(tactic| first | with_reducible refine q_let0 ?_ | with_reducible refine q_let1 ?_ | with_reducible refine q_let2 ?_ | with_reducible refine q_let3 ?_ | with_reducible refine q_let4 ?_ | with_reducible refine q_let5 ?_ | with_reducible refine q_let6 ?_ | with_reducible refine q_let7 ?_ | with_reducible refine q_let8 ?_ | with_reducible refine q_let9 ?_ | with_reducible refine q_let10 ?_ | with_reducible refine q_let11 ?_ | with_reducible refine q_let12 ?_ | with_reducible refine q_let13 ?_ | with_reducible refine q_let14 ?_ | with_reducible refine q_let15 ?_ | with_reducible refine q_let16 ?_ | with_reducible refine q_let17 ?_ | with_reducible refine q_let18 ?_ | with_reducible refine q_let19 ?_ | with_reducible refine q_let20 ?_ | with_reducible refine q_let21 ?_ | with_reducible refine q_let22 ?_ | with_reducible refine q_let23 ?_ | with_reducible refine q_let24 ?_ | with_reducible refine q_let25 ?_ | with_reducible refine q_let26 ?_ | with_reducible refine q_let27 ?_ | with_reducible refine q_let28 ?_ | with_reducible refine q_let29 ?_ | with_reducible refine q_let30 ?_ | with_reducible refine q_let31 ?_ | with_reducible refine q_let32 ?_ | with_reducible refine q_let33 ?_ | with_reducible refine q_let34 ?_ | with_reducible refine q_let35 ?_ | with_reducible refine q_let36 ?_ | with_reducible refine q_let37 ?_ | with_reducible refine q_let38 ?_ | with_reducible refine q_let39 ?_)
local macro_rules | `(tactic| tb_rel) => `(tactic| first | ((with_reducible show qLet _ _ _ _); kp_flats) | ((with_reducible refine' i_dt ?s1 ?_); (case s1 => (first | assumption | rfl))) | ((with_reducible refine' i_df ?s1 ?_); (case s1 => (assumption))) | ((with_reducible refine' i_nf ?s1 ?_); (case s1 => (first | assumption | rfl))) | ((with_reducible refine' i_nt ?s1 ?_); (case s1 => (assumption))) | ((with_reducible refine' i_t ?s1 ?_); (case s1 => (with_unfolding_all rfl))) | ((with_reducible refine' i_f ?s1 ?_); (case s1 => (with_unfolding_all rfl))) | ((with_reducible refine' q_ix_tup ?s1 ?_); (case s1 => (kqd_all))) | ((with_reducible refine' q_ix_ref ?s1 ?s2 ?_); (case s1 => (allgen_close_more)); (case s2 => (kqd_all))) | ((with_reducible refine' q_eq_int ?_)) | ((with_reducible refine' q_ne_int ?_)) | ((with_reducible refine' q_eq_str ?s1 ?s2 ?_); (case s1 => (first | assumption | decide +kernel)); (case s2 => (first | assumption | decide +kernel))) | ((with_reducible refine' q_ne_str ?s1 ?s2 ?_); (case s1 => (first | assumption | decide +kernel)); (case s2 => (first | assumption | decide +kernel))) | ((with_reducible refine' q_len_tup ?_)) | ((with_reducible refine' q_len_ref ?s1 ?_); (case s1 => (allgen_close_more))) | ((with_reducible refine' s_isml ?s1 ?_); (case s1 => (allgen_close_more))) | ((with_reducible refine' q_append2 ?s1 ?s2 ?_); (case s1 => (ked_reads)); (case s2 => (tb_start))) | ((with_reducible refine' q_append0 ?s1 ?_); (case s1 => (tb_start))) | ((with_reducible refine' q_append1 ?s1 ?_); (case s1 => (tb_start))) | ((with_reducible refine' q_append ?s1 ?s2 ?_); (case s1 => (allgen_close2_more)); (case s2 => (tb_start))) | ((with_reducible refine' q_cat ?s1 ?s2 ?s3 ?_); (case s1 => (allgen_close2_more)); (case s2 => (allgen_close2_more)); (case s3 => (tb_start))) | ((with_reducible refine' q_setL2 ?s1 ?s2 ?_); (case s1 => (ked_reads)); (case s2 => (kct_strs))) | ((with_reducible refine' q_setL ?s1 ?s2 ?_); (case s1 => (allgen_close2_more)); (case s2 => (kct_strs))) | ((with_reducible refine' q_tup_tup ?_)) | ((with_reducible refine' q_tup_ref ?s1 ?_); (case s1 => (allgen_close_more))) | ((with_reducible refine' q_list_tup ?_)) | ((with_reducible refine' q_list_ref ?s1 ?_); (case s1 => (allgen_close_more))) | ((with_reducible refine' q_sl_tup ?_)) | ((with_reducible refine' q_sl_ref ?s1 ?_); (case s1 => (allgen_close_more))) | ((with_reducible refine' s_seqI_tup ?_)) | ((with_reducible refine' s_seqI_ref ?s1 ?_); (case s1 => (allgen_close_more))) | ((with_reducible refine' q_eq_pn (d := 8) (e := 8) ?s1 ?s2 ?s3 ?s4 ?_); (case s1 => (lsm_bools)); (case s2 => (lsm_bools)); (case s3 => (first | decide | omega)); (case s4 => (first | decide | omega))) | ((with_reducible refine' q_ne_pn (d := 8) (e := 8) ?s1 ?s2 ?s3 ?s4 ?_); (case s1 => (lsm_bools)); (case s2 => (lsm_bools)); (case s3 => (first | decide | omega)); (case s4 => (first | decide | omega))) | ((with_reducible refine' q_eq_lpn (d := 8) (e := 8) ?s1 ?s2 ?s3 ?s4 ?s5 ?s6 ?_); (case s1 => (allgen_close_more)); (case s2 => (allgen_close_more)); (case s3 => (lsm_bools)); (case s4 => (lsm_bools)); (case s5 => (first | decide | omega)); (case s6 => (first | decide | omega))) | ((with_reducible refine' q_ne_lpn (d := 8) (e := 8) ?s1 ?s2 ?s3 ?s4 ?s5 ?s6 ?_); (case s1 => (allgen_close_more)); (case s2 => (allgen_close_more)); (case s3 => (lsm_bools)); (case s4 => (lsm_bools)); (case s5 => (first | decide | omega)); (case s6 => (first | decide | omega))) | ((with_reducible refine' q_is_non ?_)) | ((with_reducible refine' q_isnot_non ?_)) | ((with_reducible refine' q_eq_bl ?_)) | ((with_reducible refine' q_ne_bl ?_)) | ((with_reducible refine' q_isi ?s1 ?s2 ?_); (case s1 => (with_unfolding_all rfl)); (case s2 => (with_unfolding_all rfl))) | ((with_reducible refine' q_in_l (d := 8) (e := 8) ?s1 ?s2 ?s3 ?s4 ?s5 ?_); (case s1 => (allgen_close_more)); (case s2 => (lsm_bools)); (case s3 => (lsm_bools)); (case s4 => (first | decide | omega)); (case s5 => (first | decide | omega))) | ((with_reducible refine' q_in_t (d := 8) (e := 8) ?s1 ?s2 ?s3 ?s4 ?_); (case s1 => (lsm_bools)); (case s2 => (lsm_bools)); (case s3 => (first | decide | omega)); (case s4 => (first | decide | omega))) | ((with_reducible refine' q_notin_l (d := 8) (e := 8) ?s1 ?s2 ?s3 ?s4 ?s5 ?_); (case s1 => (allgen_close_more)); (case s2 => (lsm_bools)); (case s3 => (lsm_bools)); (case s4 => (first | decide | omega)); (case s5 => (first | decide | omega))) | ((with_reducible refine' q_notin_t (d := 8) (e := 8) ?s1 ?s2 ?s3 ?s4 ?_); (case s1 => (lsm_bools)); (case s2 => (lsm_bools)); (case s3 => (first | decide | omega)); (case s4 => (first | decide | omega))) | ((with_reducible refine' q_push0 ?s1 ?_); (case s1 => (tb_start))) | ((with_reducible refine' q_push ?s1 ?s2 ?_); (case s1 => (allgen_close2_more)); (case s2 => (tb_start))) | ((with_reducible refine' And.intro ?s1 ?_); (case s1 => (tb_start))))
local macro_rules | `(tactic| kbo_bools) => `(tactic| first | with_reducible refine i_d (fun _ => ?_) (fun _ => ?_) | with_reducible refine i_n (fun _ => ?_) (fun _ => ?_))
local macro_rules | `(tactic| keq_rows) => `(tactic| ((conv => whnf); repeat (tb_rel; (conv => whnf))))
local macro_rules | `(tactic| k_upd) => `(tactic| (keq_rows; try (kbo_bools <;> k_upd)))
local macro_rules | `(tactic| kat_tups) => `(tactic| (simp only [startL, List.map_cons, List.map_nil, List.length_cons, List.length_nil, Nat.zero_add, Nat.reduceAdd, Nat.reduceSub, List.reduceReplicate, List.cons_append, List.nil_append]; keq_rows))
local macro_rules | `(tactic| k_updF) => `(tactic| first | assumption | exact Keep.refl _ _ | exact Keep.app _ _ _ | ((with_reducible refine' Keep.app_r ?s1); (case s1 => (k_updF))) | ((with_reducible refine' Keep.set_in ?s1 ?s2); (case s1 => ((simp only [List.mem_cons, true_or, or_true]))); (case s2 => (k_updF))) | ((with_reducible refine' Keep.set_new ?s1 ?s2); (case s1 => (first | omega | (simp only [List.length_append, List.length_cons, List.length_nil, List.length_set] at * <;> omega))); (case s2 => (k_updF))) | exact Ext.keep (by assumption) | ((with_reducible refine' Keep.trans ?a (by assumption)); (case a => (k_updF))) | ((with_reducible refine' Keep.trans ?a (Ext.keep (by assumption))); (case a => (k_updF))))
local macro_rules | `(tactic| lsm_bools) => `(tactic| first | assumption | exact Pl.int _ _ | exact Pn.int _ _ | ((with_reducible refine' Pl.str _ _ ?s1); (case s1 => (first | assumption | decide +kernel))) | ((with_reducible refine' Pn.str _ _ ?s1); (case s1 => (first | assumption | decide +kernel))) | exact Pn.non _ | exact Pl.non _ | exact Pl.bl _ _ | exact Pns.nil _ | exact Pls.nil _ | ((with_reducible refine' Pls.cons ?s1 ?s2); (case s1 => (lsm_bools)); (case s2 => (lsm_bools))) | ((with_reducible refine' Pns.cons ?s1 ?s2); (case s1 => (lsm_bools)); (case s2 => (lsm_bools))) | ((with_reducible refine' Pl.tup ?s1 ?s2); (case s1 => (first | omega | (simp only [List.length_append, List.length_cons, List.length_nil, List.length_map, List.length_set, List.length_take, List.length_drop, List.length_dropLast] <;> omega))); (case s2 => (lsm_bools))) | ((with_reducible refine' Pn.tup ?s1 ?s2); (case s1 => (first | omega | (simp only [List.length_append, List.length_cons, List.length_nil, List.length_map, List.length_set, List.length_take, List.length_drop, List.length_dropLast] <;> omega))); (case s2 => (lsm_bools))))
def stp (k f s d : Int) (h : Bool) : List (Int × Str) :=
  (d, ("loser" : Str)) :: ((if h = true ∧ 0 < f then [(d + k + 1, ("finder" : Str))] else []) ++ ((if 0 < s then [(d + k + 1 + (if h = true ∧ 0 < f then f else 0), ("sale" : Str))] else []) ++
    [(d + k + 1 + (if h = true ∧ 0 < f then f else 0) + (if 0 < s then s else 0), ("house" : Str))]))
abbrev prW (p : Int × Str) : W := .tup [.int p.1, .str p.2]
@[irreducible] def sp_stages : ZC := fun ws S K => ∃ k f s d h, ws = [.tup [.int k, .int f, .int s], .int d, .bl h] ∧ ∀ S', Ext S S' → K (.tup ((stp k f s d h).map prW)) S'
theorem c_stages {k f s d : Int} {h : Bool} {S : Store} {K : WK} (h1 : ∀ S', Ext S S' → K (.tup ((stp k f s d h).map prW)) S') : sp_stages [.tup [.int k, .int f, .int s], .int d, .bl h] S K := by unfold sp_stages; exact ⟨k, f, s, d, h, rfl, h1⟩
theorem u_stages (ws : List W) (S : Store) (K : WK) (h : sp_stages ws S K) (hl : ws.length = 3) : t_stages (EndK K) (startL 8 ws) S := by
  unfold sp_stages at h
  obtain ⟨k, f, s, d, b, rfl, h⟩ := h
  cases b <;> (kat_tups; try (kbo_bools <;> k_upd)) <;> (simp [stp, prW, *] at h; exact h _ (by k_updF))
theorem u__law_stages (ws : List W) (S : Store) (K : WK) (h : sp_stages ws S K) (hl : ws.length = 3) : t__law_stages (EndK K) (startL 10 ws) S := by
  unfold sp_stages at h
  obtain ⟨k, f, s, d, b, rfl, h⟩ := h
  cases b <;> (kat_tups; refine forU ?_; k_upd <;> (simp [stp, prW, *] at h; exact h _ (by k_updF)))
def ston (ps : List (Int × Str)) (a : Int) : Str := ps.foldl (fun st p => if p.1 ≤ a then p.2 else st) ""
@[irreducible] def sp_stage_on : ZC := fun ws S K => ∃ k f s d h a, ws = [.tup [.int k, .int f, .int s], .int d, .bl h, .int a] ∧ ∀ S', Ext S S' → K (.str (ston (stp k f s d h) a)) S'
theorem c_stage_on {k f s d a : Int} {h : Bool} {S : Store} {K : WK} (h1 : ∀ S', Ext S S' → K (.str (ston (stp k f s d h) a)) S') : sp_stage_on [.tup [.int k, .int f, .int s], .int d, .bl h, .int a] S K := by unfold sp_stage_on; exact ⟨k, f, s, d, h, a, rfl, h1⟩
theorem ston_step {ps : List (Int × Str)} {i : Nat} {p : Int × Str} {a : Int} (e : ps[i]? = some p) : ston (ps.take (i + 1)) a = if p.1 ≤ a then p.2 else ston (ps.take i) a := by
  unfold ston
  rw [List.take_add_one, e, Option.toList_some, List.foldl_append]
  rfl
theorem u_stage_on (ws : List W) (S : Store) (K : WK) (h : sp_stage_on ws S K) (hl : ws.length = 4) : t_stage_on sp_stages (EndK K) (startL 7 ws) S := by
  unfold sp_stage_on at h
  obtain ⟨k, f, s, d, b, a, rfl, h⟩ := h
  kat_tups
  refine c_stages fun S1 k1 => ?_
  keq_rows
  refine forI (fun i L S2 => ∃ x y, L = [some (.tup [.int k, .int f, .int s]), some (.int d), some (.bl b), some (.int a), some (.str (ston ((stp k f s d b).take i) a)), x, y] ∧ Ext S S2) ⟨_, _, rfl, k1⟩ (fun _ _ _ _ => trivial) ?_ ?_
  · rintro i w L S2 hw ⟨x, y, rfl, k2⟩
    rw [List.getElem?_map, Option.map_eq_some_iff] at hw
    obtain ⟨p, hp, rfl⟩ := hw
    have e := ston_step (a := a) hp
    k_upd
    · rw [if_pos (by assumption)] at e
      exact ⟨_, _, by rw [e], k2⟩
    · rw [if_neg (by assumption)] at e
      exact ⟨_, _, by rw [e], k2⟩
  · rintro L S2 ⟨x, y, rfl, k2⟩
    rw [List.take_of_length_le (by simp)]
    keq_rows
    exact h _ k2
theorem stp_len (k f s d : Int) (b : Bool) : (stp k f s d b).length ≤ 4 := by
  unfold stp
  simp only [List.length_cons, List.length_append, List.length_nil]
  split <;> split <;> simp
theorem stp_ok (k f s d : Int) (b : Bool) : ∀ p ∈ stp k f s d b, p.2 = ("loser" : Str) ∨ p.2 = ("finder" : Str) ∨ p.2 = ("sale" : Str) ∨ p.2 = ("house" : Str) := by
  unfold stp
  intro p hp
  simp only [List.mem_cons, List.mem_append, List.not_mem_nil, or_false] at hp
  rcases hp with rfl | hp | hp | rfl
  · exact .inl rfl
  · split at hp <;> simp at hp
    exact .inr (.inl (by rw [hp]))
  · split at hp <;> simp at hp
    exact .inr (.inr (.inl (by rw [hp])))
  · exact .inr (.inr (.inr rfl))
theorem stp_str (k f s d : Int) (b : Bool) : ∀ p ∈ stp k f s d b, PyData.strOk p.2 = true := by
  intro p hp
  rcases stp_ok k f s d b p hp with e | e | e | e <;> rw [e] <;> decide +kernel
def upto (ps : List (Int × Str)) (a : Int) : List W := ps.filterMap fun p => if p.1 ≤ a then some (W.str p.2) else none
theorem last_fold (a : Int) : ∀ (ps : List (Int × Str)) (st : Str), W.str (ps.foldl (fun st p => if p.1 ≤ a then p.2 else st) st) = (upto ps a).getLast?.getD (.str st)
  | [], st => rfl
  | p :: ps, st => by
    rw [List.foldl_cons, last_fold a ps]
    unfold upto
    by_cases h : p.1 ≤ a
    · rw [List.filterMap_cons_some (b := W.str p.2) (by rw [if_pos h]), List.getLast?_cons, if_pos h]
      rfl
    · rw [List.filterMap_cons_none (by rw [if_neg h]), if_neg h]
def pickW (a : Int) : W → Option W
  | .tup [.int i, .str n] => if i ≤ a then some (.str n) else none
  | _ => none
theorem u__law_stage (ws : List W) (S : Store) (K : WK) (h : sp_stage_on ws S K) (hl : ws.length = 4) : t__law_stage sp_stages (EndK K) (startL 7 ws) S := by
  unfold sp_stage_on at h
  obtain ⟨k, f, s, d, b, a, rfl, h⟩ := h
  kat_tups
  refine c_stages fun S1 k1 => ?_
  keq_rows
  have hlen := stp_len k f s d b
  refine lcF (pickW a) (fun _ _ => trivial) (by rw [List.length_map]; exact s_sz (by omega)) ?_ ?_
  · intro i w S2 Kt Kf hw k2 hK hK'
    rw [List.getElem?_map, Option.map_eq_some_iff] at hw
    obtain ⟨p, hp, rfl⟩ := hw
    k_upd
    · exact hK _ _ (by unfold pickW prW; exact if_pos (by assumption)) (Keep.refl _ _)
    · exact hK' _ (by unfold pickW prW; exact if_neg (by assumption)) (Keep.refl _ _)
  · intro S2 k2 h2
    have e : (List.map prW (stp k f s d b)).filterMap (pickW a) = upto (stp k f s d b) a := by
      rw [List.filterMap_map]
      rfl
    rw [e] at h2
    have hp : Pns 8 (upto (stp k f s d b) a) := Pns.of fun x hx => by
      obtain ⟨p, hp, hq⟩ := List.mem_filterMap.mp hx
      split at hq
      · cases hq
        exact .str _ _ (stp_str _ _ _ _ _ _ hp)
      · cases hq
    have hf := last_fold a (stp k f s d b) ""
    have hx := h (S2 ++ [.lst []]) (by k_updF)
    unfold ston at hx
    rw [hf] at hx
    cases hq : upto (stp k f s d b) a with
    | nil =>
      rw [hq] at h2 hx
      keq_rows
      exact hx
    | cons x xs =>
      rw [hq] at h2 hx hp
      keq_rows
      exact hx
theorem stp_pl (k f s d : Int) (b : Bool) : Pl 8 (.tup ((stp k f s d b).map prW)) := by
  refine .tup (by rw [List.length_map]; have := stp_len k f s d b; omega) (Pls.of fun x hx => ?_)
  obtain ⟨p, hp, rfl⟩ := List.mem_map.mp hx
  unfold prW
  have := stp_str k f s d b p hp
  lsm_bools
def rank (s : Str) : Nat := if s = ("" : Str) then 0 else if s = ("loser" : Str) then 1 else if s = ("finder" : Str) then 2 else if s = ("sale" : Str) then 3 else 4
theorem rank0 : rank ("" : Str) = 0 := by decide +kernel
theorem rank1 : rank ("loser" : Str) = 1 := by decide +kernel
theorem rank2 : rank ("finder" : Str) = 2 := by decide +kernel
theorem rank3 : rank ("sale" : Str) = 3 := by decide +kernel
theorem rank4 : rank ("house" : Str) = 4 := by decide +kernel
theorem rank_mono (k f s d : Int) (h : Bool) {a b : Int} (hab : a ≤ b) : rank (ston (stp k f s d h) a) ≤ rank (ston (stp k f s d h) b) := by
  unfold stp ston
  split <;> split <;> simp only [List.foldl_cons, List.foldl_nil, List.nil_append, List.cons_append] <;> (repeat' split) <;> simp only [rank0, rank1, rank2, rank3, rank4] <;> omega
def names5 : List W := [.str "", .str "loser", .str "finder", .str "sale", .str "house"]
theorem ston_ok (k f s d : Int) (h : Bool) (a : Int) : let x := ston (stp k f s d h) a; x = ("" : Str) ∨ x = ("loser" : Str) ∨ x = ("finder" : Str) ∨ x = ("sale" : Str) ∨ x = ("house" : Str) := by
  have key : ∀ (ps : List (Int × Str)) (st : Str), (∀ p ∈ ps, p.2 = ("loser" : Str) ∨ p.2 = ("finder" : Str) ∨ p.2 = ("sale" : Str) ∨ p.2 = ("house" : Str)) →
      (st = ("" : Str) ∨ st = ("loser" : Str) ∨ st = ("finder" : Str) ∨ st = ("sale" : Str) ∨ st = ("house" : Str)) →
      (let x := ps.foldl (fun st p => if p.1 ≤ a then p.2 else st) st; x = ("" : Str) ∨ x = ("loser" : Str) ∨ x = ("finder" : Str) ∨ x = ("sale" : Str) ∨ x = ("house" : Str)) := by
    intro ps
    induction ps with
    | nil => intro st _ h; exact h
    | cons p ps ih =>
      intro st hp hs
      refine ih _ (fun q hq => hp q (List.mem_cons_of_mem _ hq)) ?_
      dsimp only
      split
      · exact .inr (hp p List.mem_cons_self)
      · exact hs
  exact key _ _ (stp_ok k f s d h) (.inl rfl)
theorem ston_str (k f s d : Int) (h : Bool) (a : Int) : PyData.strOk (ston (stp k f s d h) a) = true := by
  rcases ston_ok k f s d h a with e | e | e | e | e <;> rw [e] <;> decide +kernel
theorem names_pns : Pns 8 names5 := by
  unfold names5
  lsm_bools
theorem names_rank (k f s d : Int) (h : Bool) (a : Int) : names5[rank (ston (stp k f s d h) a)]? = some (.str (ston (stp k f s d h) a)) ∧ ∀ m, m < rank (ston (stp k f s d h) a) → names5[m]? ≠ some (.str (ston (stp k f s d h) a)) := by
  rcases ston_ok k f s d h a with e | e | e | e | e <;> rw [e]
  · exact ⟨rfl, fun m hm => by rw [rank0] at hm; omega⟩
  · rw [rank1]
    refine ⟨rfl, fun m hm => ?_⟩
    obtain rfl : m = 0 := by omega
    intro h
    exact absurd (W.str.inj (Option.some.inj h)) (by decide +kernel)
  · rw [rank2]
    refine ⟨rfl, fun m hm => ?_⟩
    rcases (by omega : m = 0 ∨ m = 1) with rfl | rfl <;> (intro h; exact absurd (W.str.inj (Option.some.inj h)) (by decide +kernel))
  · rw [rank3]
    refine ⟨rfl, fun m hm => ?_⟩
    rcases (by omega : m = 0 ∨ m = 1 ∨ m = 2) with rfl | rfl | rfl <;> (intro h; exact absurd (W.str.inj (Option.some.inj h)) (by decide +kernel))
  · rw [rank4]
    refine ⟨rfl, fun m hm => ?_⟩
    rcases (by omega : m = 0 ∨ m = 1 ∨ m = 2 ∨ m = 3) with rfl | rfl | rfl | rfl <;> (intro h; exact absurd (W.str.inj (Option.some.inj h)) (by decide +kernel))
theorem stp_nof (k f s d : Int) : stp k f s d false = stp k 0 s d true := by unfold stp; simp
def shW (t : Int) : W → W
  | .tup [.int i, x] => .tup [.int (i + t), x]
  | w => w
theorem stp_shift (k f s d t : Int) (h : Bool) : (stp k f s (d + t) h).map prW = ((stp k f s d h).map prW).map (shW t) := by
  unfold stp
  split <;> split <;> simp [prW, shW] <;> omega
theorem stp_keep (k f s d t : Int) (h : Bool) : (stp (k + t) f s d h).map prW = ((stp k f s d h).map prW).take 1 ++ (((stp k f s d h).map prW).drop 1).map (shW t) := by
  unfold stp
  split <;> split <;> simp [prW, shW] <;> omega
def nmW : W → W
  | .tup [_, x] => x
  | w => w
theorem stp_nosale (k f d : Int) (h : Bool) : ¬ (W.str ("sale" : Str)) ∈ ((stp k f 0 d h).map prW).map nmW := by
  intro hm
  rw [List.map_map] at hm
  obtain ⟨p, hp, e⟩ := List.mem_map.mp hm
  have e2 : p.2 = ("sale" : Str) := W.str.inj e
  unfold stp at hp
  simp only [List.mem_cons, List.mem_append, List.not_mem_nil, or_false, Int.lt_irrefl, if_false] at hp
  rcases hp with rfl | hp | hp | rfl
  · exact absurd (show ("loser" : Str) = "sale" from e2) (by decide +kernel)
  · split at hp
    · simp only [List.mem_cons, List.not_mem_nil, or_false] at hp
      subst hp
      exact absurd (show ("finder" : Str) = "sale" from e2) (by decide +kernel)
    · cases hp
  · cases hp
  · exact absurd (show ("house" : Str) = "sale" from e2) (by decide +kernel)
theorem stp_nmpn (k f d : Int) (h : Bool) : Pns 8 (((stp k f 0 d h).map prW).map nmW) := by
  refine Pns.of fun x hx => ?_
  rw [List.map_map] at hx
  obtain ⟨p, hp, rfl⟩ := List.mem_map.mp hx
  exact .str _ _ (stp_str _ _ _ _ _ _ hp)
open Classical in
noncomputable def lfW : W → Option W
  | .tup [i, x] => if x ∈ [W.str ("loser" : Str), W.str ("finder" : Str)] then some (.tup [i, x]) else none
  | _ => none
theorem lfW_t {p : Int × Str} (h : p.2 = ("loser" : Str) ∨ p.2 = ("finder" : Str)) : lfW (prW p) = some (prW p) := if_pos (by rcases h with h | h <;> rw [h] <;> simp)
theorem lfW_f {p : Int × Str} (h1 : p.2 ≠ ("loser" : Str)) (h2 : p.2 ≠ ("finder" : Str)) : lfW (prW p) = none := if_neg (by
  simp only [List.mem_cons, List.not_mem_nil, or_false]
  rintro (h | h)
  · exact h1 (W.str.inj h)
  · exact h2 (W.str.inj h))
theorem stp_lf (k f s d : Int) (h : Bool) : ((stp k f 0 d h).map prW).dropLast = ((stp k f s d h).map prW).filterMap lfW := by
  have l1 : ∀ i, lfW (prW (i, ("loser" : Str))) = some (prW (i, ("loser" : Str))) := fun i => lfW_t (.inl rfl)
  have l2 : ∀ i, lfW (prW (i, ("finder" : Str))) = some (prW (i, ("finder" : Str))) := fun i => lfW_t (.inr rfl)
  have l3 : ∀ i, lfW (prW (i, ("sale" : Str))) = none := fun i => lfW_f (show ¬ (_ : Str) = _ from by dsimp only; decide +kernel) (show ¬ (_ : Str) = _ from by dsimp only; decide +kernel)
  have l4 : ∀ i, lfW (prW (i, ("house" : Str))) = none := fun i => lfW_f (show ¬ (_ : Str) = _ from by dsimp only; decide +kernel) (show ¬ (_ : Str) = _ from by dsimp only; decide +kernel)
  unfold stp
  split <;> by_cases h0 : 0 < s <;> simp [h0, l1, l2, l3, l4]
theorem stp_pl2 (k f d : Int) (h : Bool) : Pl 8 (.tup ((stp k f 0 d h).map prW).dropLast) := by
  have := stp_pl k f 0 d h
  cases this with
  | tup hz h =>
    exact .tup (by rw [List.length_dropLast]; omega) (Pls.of fun x hx => by
      obtain ⟨i, hi⟩ := List.mem_iff_getElem?.mp (List.dropLast_subset _ hx)
      exact h.get hi)
def lastD (k f s d : Int) (h : Bool) : Int := d + k + 1 + (if h = true ∧ 0 < f then f else 0) + (if 0 < s then s else 0)
theorem stp_last (k f s d : Int) (h : Bool) : atI ((stp k f s d h).map prW) (-1) = some (.tup [.int (lastD k f s d h), .str ("house" : Str)]) := by
  rw [atI_m1]
  unfold stp
  split <;> split <;> simp [prW, lastD, *]
@[irreducible] def sp_law : ZC := fun ws S K => ∃ ns : List Int, ws = [.ref 0] ∧ IsLst S 0 (ns.map W.int) ∧ ∀ S', K (.bl true) S'
theorem u_law (ws : List W) (S : Store) (K : WK) (h : sp_law ws S K) (hl : ws.length = 1) : t_law sp__law_flow sp__law_one sp__law_draw sp_stages (sp__law_same 8) sp_stages sp_stage_on sp_stage_on (EndK K) (startL 19 ws) S := by
  unfold sp_law at h
  obtain ⟨ns, rfl, h0, h⟩ := h
  kat_tups
  refine c__law_flow h0 fun n m S1 k1 f1 => ?_
  keq_rows
  refine c__law_one f1 (by decide) (by decide) fun mo S2 hmo k2 f2 => ?_
  obtain ⟨most, rfl, hm1, hm2⟩ : ∃ most : Int, mo = .int most ∧ 0 < most ∧ most < 402 := by
    simp only [List.mem_cons, List.not_mem_nil, or_false] at hmo
    rcases hmo with e | e | e | e <;> exact ⟨_, e, by decide, by decide⟩
  keq_rows
  refine lcDraw f2 (many := most) (fun _ _ => trivial) (s_sz (by decide)) ?_ ?_
  · intro i w S3 Kt Kf hw f3 k3 hK
    obtain ⟨_, rfl⟩ := rangeW_inv0 hw
    keq_rows
    refine c__law_draw f3 hm1 (by omega) fun r S4 r1 r2 k4 f4 => ?_
    keq_rows
    exact hK _ _ k4 f4 r1 r2
  intro ts S3 ht1 ht2 f3 k3 h3
  obtain ⟨kk, ff, ss, rfl⟩ : ∃ a b c, ts = [a, b, c] := by
    match ts, ht1 with
    | [a, b, c], _ => exact ⟨a, b, c, rfl⟩
  simp only [List.mem_cons, List.not_mem_nil, or_false, forall_eq_or_imp, forall_eq] at ht2
  obtain ⟨⟨a1, a2⟩, ⟨b1, b2⟩, c1, c2⟩ := ht2
  keq_rows
  refine c__law_draw f3 (by decide) (by decide) fun d S4 d1 d2 k4 f4 => ?_
  keq_rows
  refine c__law_draw f4 (by decide) (by decide) fun z S5 z1 z2 k5 f5 => ?_
  keq_rows
  generalize decide (z = 0) = hf
  refine c_stages fun S6 k6 => ?_
  keq_rows
  refine c_stages fun S7 k7 => ?_
  keq_rows
  refine c__law_same (stp_pl _ _ _ _ _) fun S8 k8 => ?_
  have f8 := ((f5.ext k6).ext k7).ext k8
  clear k1 k2 k3 k4 k5 k6 k7 k8 h3 f1 f2 f3 f4 f5
  keq_rows
  refine forI (fun i L S' => ∃ (q : Nat) (qs : List Int) (x9 x10 x11 : Option W), L = [some (.ref 0), some (.ref n), some (.int most), some (.tup [.int kk, .int ff, .int ss]), none, some (.int d), some (.bl hf), some (.tup ((stp kk ff ss d hf).map prW)), some (.ref q), x9, x10, x11, none, none, none, none, none, none, none] ∧
    S'[q]? = some (.lst (qs.map W.int)) ∧ qs.length ≤ 3 * i ∧ q ≠ n ∧ Ext S8 S') ⟨_, [], _, _, _, rfl, (app_get0 _ _).trans rfl, by simp, by have := f8.lt; omega, Keep.app _ _ _⟩ (fun _ _ _ _ => trivial) ?_ ?_
  · rintro i w L S9 hw ⟨q, qs, x9, x10, x11, rfl, hq, hql, hqn, k9⟩
    have f9 := (f8.ext k9).lt
    rw [List.getElem?_map, Option.map_eq_some_iff] at hw
    obtain ⟨p, hp, rfl⟩ := hw
    have hi : i < 4 := Nat.lt_of_lt_of_le (List.getElem?_eq_some_iff.mp hp).1 (stp_len ..)
    keq_rows
    refine lcU ?_
    keq_rows
    refine ⟨_, qs ++ [if p.1 + -1 > 0 then p.1 + -1 else 0, if p.1 + 0 > 0 then p.1 + 0 else 0, if p.1 + 1 > 0 then p.1 + 1 else 0], _, _, _, rfl, ?_, ?_, ?_, ?_⟩
    · exact (app_get0 _ _).trans (by rw [List.map_append]; rfl)
    · simp; omega
    · simp; omega
    · k_updF
  · rintro L S9 ⟨q, qs, x9, x10, x11, rfl, hq, hql, hqn, k9⟩
    rw [List.length_map] at hql
    have hlen := stp_len kk ff ss d hf
    have f9 := f8.ext k9
    keq_rows
    refine c__law_draw f9 (by decide) (by decide) fun r S10 r1 r2 k10 f10 => ?_
    have hq10 := k10 _ _ (by simpa using hqn) hq
    keq_rows
    have e1 : List.map W.int qs ++ [W.int 0, W.int 400, W.int r, W.int d] = (qs ++ [0, 400, r, d]).map W.int := by rw [List.map_append]; rfl
    rw [e1]
    refine lcF (fun w => match w with | .int a => if a ≤ 400 then some (.int a) else none | _ => none) (fun S' k => ?_) (by rw [List.length_map]; exact s_sz (by simp; omega)) ?_ ?_
    · exact Ext.lst k (by allgen_close_more)
    · intro i w S11 Kt Kf hw k11 hK hK'
      rw [List.getElem?_map, Option.map_eq_some_iff] at hw
      obtain ⟨a, ha, rfl⟩ := hw
      k_upd
      · exact hK _ _ (if_pos (by assumption)) (Keep.refl _ _)
      · exact hK' _ (if_neg (by assumption)) (Keep.refl _ _)
    · intro S11 k11 h11
      have e2 : (List.map W.int (qs ++ [0, 400, r, d])).filterMap (fun w => match w with | .int a => if a ≤ 400 then some (W.int a) else none | _ => none) = ((qs ++ [0, 400, r, d]).filter (fun a => decide (a ≤ 400))).map W.int := by
        rw [List.filterMap_map]
        generalize qs ++ [0, 400, r, d] = l
        induction l with
        | nil => rfl
        | cons a l ih => by_cases ha : a ≤ 400 <;> simp [List.filterMap_cons, List.filter_cons, ha] <;> simpa using ih
      rw [e2] at h11
      generalize hsp : (qs ++ [0, 400, r, d]).filter (fun a => decide (a ≤ 400)) = sp at h11
      have f11 := (f10.ext ((Keep.app _ _ _).trans (Keep.app _ _ _))).ext k11
      keq_rows
      refine s_sorted (by allgen_close_more) fun sp' _ hso => ?_
      keq_rows
      refine forI (fun i L S' => ∃ (lv : Nat) (x9 x10 x11 x12 : Option W), L = [some (.ref 0), some (.ref n), some (.int most), some (.tup [.int kk, .int ff, .int ss]), none, some (.int d), some (.bl hf), some (.tup ((stp kk ff ss d hf).map prW)), some (.ref (S10 ++ [O.lst [W.int 0, W.int 400, W.int r, W.int d]] ++ [O.lst (List.map W.int (qs ++ [0, 400, r, d]))]).length), x9, x10, x11, x12, some (.ref S11.length), some (.int lv), none, none, none, none] ∧
        Ext (S11 ++ [.lst names5] ++ [.lst (sp'.map W.int)]) S' ∧ ∀ j a, i ≤ j → sp'[j]? = some a → lv ≤ rank (ston (stp kk ff ss d hf) a)) ⟨0, _, _, _, _, rfl, Keep.refl _ _, fun _ _ _ _ => Nat.zero_le _⟩ ?_ ?_ ?_
      · rintro i L S12 ⟨lv, y9, y10, y11, y12, rfl, k12, hlv⟩
        exact Ext.lst k12 (by allgen_close_more)
      · rintro i w L S12 hw ⟨lv, y9, y10, y11, y12, rfl, k12, hlv⟩
        rw [List.getElem?_map, Option.map_eq_some_iff] at hw
        obtain ⟨a, ha, rfl⟩ := hw
        keq_rows
        refine c_stage_on fun S13 k13 => ?_
        keq_rows
        refine c_stage_on fun S14 k14 => ?_
        keq_rows
        refine c__law_same (.str _ _ (ston_str _ _ _ _ _ _)) fun S15 k15 => ?_
        have hnm : IsLst S15 S11.length names5 := Ext.lst (((k12.trans k13).trans k14).trans k15) (by allgen_close_more)
        have hr := names_rank kk ff ss d hf a
        have hlt : ¬ ((rank (ston (stp kk ff ss d hf) a) : Int) < (lv : Int)) := by have := hlv i a (Nat.le_refl _) ha; omega
        keq_rows
        refine q_index (d := 8) (e := 8) hnm (.str _ _ (ston_str _ _ _ _ _ _)) names_pns (by decide) (by decide) hr.1 hr.2 ?_
        keq_rows
        refine q_index (d := 8) (e := 8) hnm (.str _ _ (ston_str _ _ _ _ _ _)) names_pns (by decide) (by decide) hr.1 hr.2 ?_
        keq_rows
        refine ⟨_, _, _, _, _, rfl, ((k12.trans k13).trans k14).trans k15, fun j b hj hb => rank_mono _ _ _ _ _ ?_⟩
        exact List.pairwise_iff_getElem.mp hso i j (List.getElem?_eq_some_iff.mp ha).1 (List.getElem?_eq_some_iff.mp hb).1 (by omega) |> fun h => by rwa [(List.getElem?_eq_some_iff.mp ha).2, (List.getElem?_eq_some_iff.mp hb).2] at h
      · rintro L S12 ⟨lv, y9, y10, y11, y12, rfl, k12, hlv⟩
        have f12 := ((f11.ext (Keep.app _ _ _)).ext (Keep.app _ _ _)).ext k12
        keq_rows
        cases hf
        case' false =>
          keq_rows
          refine c_stages fun S13 k13 => ?_
          keq_rows
          refine c__law_sameE (by rw [stp_nof]) (stp_pl _ _ _ _ _) fun S14 k14 => ?_
          have f14 := (f12.ext k13).ext k14
          keq_rows
        case' true =>
          keq_rows
        all_goals
          rename FlowOk _ _ _ => g1
          refine c__law_draw g1 (by omega) (by omega) fun t S15 t1 t2 _ g2 => ?_
          keq_rows
          refine c_stages fun S16 k16 => ?_
          have g3 := g2.ext k16
          keq_rows
          refine lcMap (shW t) (fun _ _ => trivial) (by rw [List.length_map]; exact s_sz (by omega)) ?_ ?_
          · intro i w S17 Kt Kf hw _ hK
            rw [List.getElem?_map, Option.map_eq_some_iff] at hw
            obtain ⟨p, hp, rfl⟩ := hw
            keq_rows
            exact hK _ (Keep.refl _ _)
          intro S17 k17 h17
          have g4 := g3.ext k17
          clear g1 g2 g3
          keq_rows
          refine c__law_sameE (by rw [stp_shift]) (stp_pl _ _ _ _ _) fun S18 k18 => ?_
          have g5 := g4.ext k18
          keq_rows
          refine c__law_draw g5 (by omega) (by omega) fun u S19 u1 u2 _ g6 => ?_
          keq_rows
          refine c_stages fun S20 k20 => ?_
          have g7 := g6.ext k20
          keq_rows
          rw [show cut (List.map prW (stp kk ff ss d _)) (some 1) none = _ from cut_from _ 1, show cut (List.map prW (stp kk ff ss d _)) none (some 1) = _ from cut_to _ 1]
          refine lcMap (shW u) (fun _ _ => trivial) (s_sz (by rw [List.length_drop, List.length_map]; omega)) ?_ ?_
          · intro i w S21 Kt Kf hw _ hK
            obtain ⟨p, -, rfl⟩ := List.mem_map.mp (List.mem_of_mem_drop (List.mem_of_getElem? hw))
            keq_rows
            exact hK _ (Keep.refl _ _)
          intro S21 k21 h21
          have g8 := g7.ext k21
          clear g4 g5 g6 g7
          keq_rows
          refine c__law_sameE (by rw [stp_keep]) (stp_pl _ _ _ _ _) fun S22 k22 => ?_
          have g9 := g8.ext k22
          keq_rows
          refine c_stages fun S23 k23 => ?_
          keq_rows
          refine lcMap nmW (fun _ _ => trivial) (by rw [List.length_map]; exact s_sz (Nat.le_trans (stp_len kk ff 0 d _) (by decide))) ?_ ?_
          · intro i w S24 Kt Kf hw _ hK
            rw [List.getElem?_map, Option.map_eq_some_iff] at hw
            obtain ⟨p, hp, rfl⟩ := hw
            keq_rows
            exact hK _ (Keep.refl _ _)
          intro S24 k24 h24
          have hns1 := stp_nosale kk ff d true
          have hns2 := stp_nosale kk ff d false
          have hpn1 := stp_nmpn kk ff d true
          have hpn2 := stp_nmpn kk ff d false
          have hl1 := stp_last kk ff ss d true
          have hl2 := stp_last kk ff ss d false
          have hl3 := stp_last kk ff 0 d true
          have hl4 := stp_last kk ff 0 d false
          keq_rows
          rw [show cut (List.map prW (stp kk ff 0 d _)) none (some (-1)) = _ from cut_m1 _]
          refine lcF lfW (fun _ _ => trivial) (by rw [List.length_map]; exact s_sz (by omega)) ?_ ?_
          · intro i w S25 Kt Kf hw _ hK hK'
            rw [List.getElem?_map, Option.map_eq_some_iff] at hw
            obtain ⟨p, hp, rfl⟩ := hw
            have hps := stp_str _ _ _ _ _ _ (List.mem_of_getElem? hp)
            k_upd
            · exact hK _ _ (if_pos (by assumption)) (Keep.refl _ _)
            · exact hK' _ (if_neg (by assumption)) (Keep.refl _ _)
          intro S25 k25 h25
          keq_rows
          refine c__law_sameE (by rw [stp_lf]) (stp_pl2 _ _ _ _) fun S26 k26 => ?_
          keq_rows
          refine c__law_sameE (by simp [lastD]; omega) (.tup (by simp) (Pls.cons (.int _ _) (Pls.cons (.str _ _ (by decide +kernel)) (.nil _)))) fun S27 _ => ?_
          exact h _
end L56

set_option maxHeartbeats 4000000
namespace L56
open PySem PySem.Spec PyProof.Rows L2 Z FA
section
variable {l : PySem.W.OpenLaw} {w : World} {K : PySem.W.Frag} {h : Heap} {mg : Str → Option Value} {fa : Addr}
theorem all_mk (X : K.In h) (G : h.Ns mainGlobals mg) (hfa : mg "law" = some (.ref fa))
    (d__law_mix : DefAt K "_law_mix" s__law_mix)
    (d__law_flow : DefAt K "_law_flow" s__law_flow)
    (d__law_draw : DefAt K "_law_draw" s__law_draw)
    (d__law_one : DefAt K "_law_one" s__law_one)
    (d__law_same : DefAt K "_law_same" s__law_same)
    (d_stages : DefAt K "stages" s_stages)
    (d__law_stages : DefAt K "_law_stages" s__law_stages)
    (d_stage_on : DefAt K "stage_on" s_stage_on)
    (d__law_stage : DefAt K "_law_stage" s__law_stage)
    (d_law : DefAt K "law" s_law)
    (z_abs : PySem.W.nsIn K mainGlobals "abs" = some none)
    (z_bool : PySem.W.nsIn K mainGlobals "bool" = some none)
    (z_int : PySem.W.nsIn K mainGlobals "int" = some none)
    (z_isinstance : PySem.W.nsIn K mainGlobals "isinstance" = some none)
    (z_len : PySem.W.nsIn K mainGlobals "len" = some none)
    (z_max : PySem.W.nsIn K mainGlobals "max" = some none)
    (z_range : PySem.W.nsIn K mainGlobals "range" = some none)
    (z_sorted : PySem.W.nsIn K mainGlobals "sorted" = some none)
    (z_str : PySem.W.nsIn K mainGlobals "str" = some none)
    (z_tuple : PySem.W.nsIn K mainGlobals "tuple" = some none)
    : ∃ fd : FuncData, (∀ (s : Shared) (v : Value), BindsTo s fd ⟨[v], []⟩ [("script", v)]) ∧ ∀ base : Heap, K.In base → base.Ns mainGlobals mg → FnOk l.prog w K mg base CX0 10 fa fd ["script"] (spZ K) := by
  have hB : Bl mg := ⟨PySem.W.mg_none_of X G z_abs, PySem.W.mg_none_of X G z_bool, PySem.W.mg_none_of X G z_int, PySem.W.mg_none_of X G z_isinstance, PySem.W.mg_none_of X G z_len, PySem.W.mg_none_of X G z_max, PySem.W.mg_none_of X G z_range, PySem.W.mg_none_of X G z_sorted, PySem.W.mg_none_of X G z_str, PySem.W.mg_none_of X G z_tuple⟩
  obtain ⟨f__law_mix, fd__law_mix, F__law_mix, m__law_mix⟩ := d__law_mix.fn X G
  obtain ⟨f__law_flow, fd__law_flow, F__law_flow, m__law_flow⟩ := d__law_flow.fn X G
  obtain ⟨f__law_draw, fd__law_draw, F__law_draw, m__law_draw⟩ := d__law_draw.fn X G
  obtain ⟨f__law_one, fd__law_one, F__law_one, m__law_one⟩ := d__law_one.fn X G
  obtain ⟨f__law_same, fd__law_same, F__law_same, m__law_same⟩ := d__law_same.fn X G
  obtain ⟨f_stages, fd_stages, F_stages, m_stages⟩ := d_stages.fn X G
  obtain ⟨f__law_stages, fd__law_stages, F__law_stages, m__law_stages⟩ := d__law_stages.fn X G
  obtain ⟨f_stage_on, fd_stage_on, F_stage_on, m_stage_on⟩ := d_stage_on.fn X G
  obtain ⟨f__law_stage, fd__law_stage, F__law_stage, m__law_stage⟩ := d__law_stage.fn X G
  obtain ⟨f_law, fd_law, F_law, m_law⟩ := d_law.fn X G
  cases hfa.symm.trans m_law
  refine ⟨fd_law, bind1 F_law (fun _ _ _ _ _ _ _ => rfl), fun base _ _ => ?_⟩
  have B__law_mix := F__law_mix.binds (ps := ["cell", "turn"]) fun _ _ _ _ _ _ us hl => match us, hl with | [_, _], _ => rfl
  have C__law_mix : Cal l.prog w K mg base [] 1 "_law_mix" 2 _ := ⟨f__law_mix, fd__law_mix, _, rfl, fn_z F__law_mix sc__law_mix (fun cdv A outer s H E hr => b__law_mix hB cdv A outer s H E hr) FA.u__law_mix, m__law_mix, F__law_mix.kp, B__law_mix⟩
  have B__law_flow := F__law_flow.binds (ps := ["script"]) fun _ _ _ _ _ _ us hl => match us, hl with | [_], _ => rfl
  have C__law_flow : Cal l.prog w K mg base [] 2 "_law_flow" 1 _ := ⟨f__law_flow, fd__law_flow, _, rfl, fn_z F__law_flow sc__law_flow (fun cdv A outer s H E hr => b__law_flow hB (C__law_mix.mono (by decide)) cdv A outer s H E hr) FA.u__law_flow, m__law_flow, F__law_flow.kp, B__law_flow⟩
  have B__law_draw := F__law_draw.binds (ps := ["flow", "many"]) fun _ _ _ _ _ _ us hl => match us, hl with | [_, _], _ => rfl
  have C__law_draw : Cal l.prog w K mg base [] 2 "_law_draw" 2 _ := ⟨f__law_draw, fd__law_draw, _, rfl, fn_z F__law_draw sc__law_draw (fun cdv A outer s H E hr => b__law_draw hB (C__law_mix.mono (by decide)) cdv A outer s H E hr) FA.u__law_draw, m__law_draw, F__law_draw.kp, B__law_draw⟩
  have B__law_one := F__law_one.binds (ps := ["flow", "things"]) fun _ _ _ _ _ _ us hl => match us, hl with | [_, _], _ => rfl
  have C__law_one : Cal l.prog w K mg base [] 3 "_law_one" 2 _ := ⟨f__law_one, fd__law_one, _, rfl, fn_z F__law_one sc__law_one (fun cdv A outer s H E hr => b__law_one hB (C__law_draw.mono (by decide)) cdv A outer s H E hr) FA.u__law_one, m__law_one, F__law_one.kp, B__law_one⟩
  have B__law_same := F__law_same.binds (ps := ["actual", "due"]) fun _ _ _ _ _ _ us hl => match us, hl with | [_, _], _ => rfl
  have CR__law_same : ∀ d, Cal l.prog w K mg base [] (d + 1) "_law_same" 2 (sp__law_same d) := by
    intro d
    induction d with
    | zero => exact ⟨f__law_same, fd__law_same, _, rfl, fn_z F__law_same sc__law_same (fun cdv A outer s H E hr => b__law_same hB ⟨f__law_same, fd__law_same, _, rfl, zfn_false, m__law_same, F__law_same.kp, B__law_same⟩ cdv A outer s H E hr) (FA.u__law_same 0 (fun _ _ _ => False) (fun e h => by omega)), m__law_same, F__law_same.kp, B__law_same⟩
    | succ d ih => exact ⟨f__law_same, fd__law_same, _, rfl, (fn_z F__law_same sc__law_same (fun cdv A outer s H E hr => b__law_same hB ih cdv A outer s H E hr) (FA.u__law_same (d + 1) (sp__law_same d) (fun e h => by cases h; rfl))).mono (by omega), m__law_same, F__law_same.kp, B__law_same⟩
  have C__law_same := CR__law_same 8
  have B_stages := F_stages.binds (ps := ["term", "day", "has_finder"]) fun _ _ _ _ _ _ us hl => match us, hl with | [_, _, _], _ => rfl
  have C_stages : Cal l.prog w K mg base [] 1 "stages" 3 _ := ⟨f_stages, fd_stages, _, rfl, fn_z F_stages sc_stages (fun cdv A outer s H E hr => b_stages hB cdv A outer s H E hr) u_stages, m_stages, F_stages.kp, B_stages⟩
  have KW_stages : CalK l.prog w K mg base [] 1 "stages" 3 ["day", "term", "has_finder"] [1,0,2] _ := ⟨f_stages, fd_stages, _, rfl, fn_z F_stages sc_stages (fun cdv A outer s H E hr => b_stages hB cdv A outer s H E hr) u_stages, m_stages, F_stages.kp, bindsK F_stages (by intro _ _ _ _ _ _ ws hl; match ws, hl with | _ :: _ :: _ :: _, _ => exact rfl | [], hl => exact absurd hl (by simp [pick]) | [_], hl => exact absurd hl (by simp [pick]) | [_, _], hl => exact absurd hl (by simp [pick]))⟩
  have B__law_stages := F__law_stages.binds (ps := ["term", "day", "has_finder"]) fun _ _ _ _ _ _ us hl => match us, hl with | [_, _, _], _ => rfl
  have C__law_stages : Cal l.prog w K mg base [] 1 "_law_stages" 3 _ := ⟨f__law_stages, fd__law_stages, _, rfl, fn_z F__law_stages sc__law_stages (fun cdv A outer s H E hr => b__law_stages hB cdv A outer s H E hr) u__law_stages, m__law_stages, F__law_stages.kp, B__law_stages⟩
  have B_stage_on := F_stage_on.binds (ps := ["term", "day", "has_finder", "asked_day"]) fun _ _ _ _ _ _ us hl => match us, hl with | [_, _, _, _], _ => rfl
  have C_stage_on : Cal l.prog w K mg base [] 2 "stage_on" 4 _ := ⟨f_stage_on, fd_stage_on, _, rfl, fn_z F_stage_on sc_stage_on (fun cdv A outer s H E hr => b_stage_on (C_stages.mono (by decide)) cdv A outer s H E hr) u_stage_on, m_stage_on, F_stage_on.kp, B_stage_on⟩
  have B__law_stage := F__law_stage.binds (ps := ["term", "day", "has_finder", "asked"]) fun _ _ _ _ _ _ us hl => match us, hl with | [_, _, _, _], _ => rfl
  have C__law_stage : Cal l.prog w K mg base [] 2 "_law_stage" 4 _ := ⟨f__law_stage, fd__law_stage, _, rfl, fn_z F__law_stage sc__law_stage (fun cdv A outer s H E hr => b__law_stage (C__law_stages.mono (by decide)) cdv A outer s H E hr) u__law_stage, m__law_stage, F__law_stage.kp, B__law_stage⟩
  exact law_spZ (fn_z F_law sc_law (fun cdv A outer s H E hr => b_law hB (C__law_flow.mono (by decide)) (C__law_one.mono (by decide)) (C__law_draw.mono (by decide)) (C_stages.mono (by decide)) (C__law_same.mono (by decide)) (C__law_stages.mono (by decide)) (C_stage_on.mono (by decide)) (C__law_stage.mono (by decide)) (KW_stages.mono (by decide)) cdv A outer s H E hr) u_law) fun ns _ Kc hk => by unfold sp_law; exact ⟨ns, rfl, rfl, hk⟩
end
end L56
open PySem PySem.W PyProof.Rows
set_option maxHeartbeats 0 in
theorem PySem.Challenge.cw_whoseitis_k56_stages_in_rows_holds : PySem.Challenge.rw_whoseitis_k56_stages_in_rows.Holds := by
  w_on; o_law; k_head; (case hw => w_witness2)
  k_fill
  refine L2.walk_of (l := PySem.Challenge.rw_whoseitis_k56_stages_in_rows) (n := 63) (k := 10) (x := "script") (CX := fun _ => L2.CX0) (sp := fun w => Z.spZ _) rfl (by decide) rfl ⟨rfl, by decide, by decide⟩ (fun w h Y => PySem.W.kIn_of Y) ?F (fun _ _ a ns hl hO hS => ⟨a, ns, rfl, hl, hO, hS, fun _ => rfl⟩) (fun _ _ _ _ _ h => h)
  case F =>
    intro w mg fa h KX G hmg
    refine' L56.all_mk KX G hmg ?d__law_mix ?d__law_flow ?d__law_draw ?d__law_one ?d__law_same ?d_stages ?d__law_stages ?d_stage_on ?d__law_stage ?d_law ?z_abs ?z_bool ?z_int ?z_isinstance ?z_len ?z_max ?z_range ?z_sorted ?z_str ?z_tuple
    (case d__law_mix => (refine' Z.defAt ?a ?l ?c ?k; (case a => k_is); (case l => k_is); (case c => k_is); (case k => k_is)))
    (case d__law_flow => (refine' Z.defAt ?a ?l ?c ?k; (case a => k_is); (case l => k_is); (case c => k_is); (case k => k_is)))
    (case d__law_draw => (refine' Z.defAt ?a ?l ?c ?k; (case a => k_is); (case l => k_is); (case c => k_is); (case k => k_is)))
    (case d__law_one => (refine' Z.defAt ?a ?l ?c ?k; (case a => k_is); (case l => k_is); (case c => k_is); (case k => k_is)))
    (case d__law_same => (refine' Z.defAt ?a ?l ?c ?k; (case a => k_is); (case l => k_is); (case c => k_is); (case k => k_is)))
    (case d_stages => (refine' Z.defAt ?a ?l ?c ?k; (case a => k_is); (case l => k_is); (case c => k_is); (case k => k_is)))
    (case d__law_stages => (refine' Z.defAt ?a ?l ?c ?k; (case a => k_is); (case l => k_is); (case c => k_is); (case k => k_is)))
    (case d_stage_on => (refine' Z.defAt ?a ?l ?c ?k; (case a => k_is); (case l => k_is); (case c => k_is); (case k => k_is)))
    (case d__law_stage => (refine' Z.defAt ?a ?l ?c ?k; (case a => k_is); (case l => k_is); (case c => k_is); (case k => k_is)))
    (case d_law => (refine' Z.defAt ?a ?l ?c ?k; (case a => k_is); (case l => k_is); (case c => k_is); (case k => k_is)))
    (case z_abs => k_is)
    (case z_bool => k_is)
    (case z_int => k_is)
    (case z_isinstance => k_is)
    (case z_len => k_is)
    (case z_max => k_is)
    (case z_range => k_is)
    (case z_sorted => k_is)
    (case z_str => k_is)
    (case z_tuple => k_is)

