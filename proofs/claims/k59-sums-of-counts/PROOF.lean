import PyProof.Rows.All
import Wide.All
import OpenK.AllK
import Wide.FinOn
import HandS.ForMost
import HandS.ForExc
import HandS.More
import HandS.Style
import HandS.Flow
import HandS.TupAny
import HandS.TupMul
import HandS.TupLen
import HandS.IsInst
import HandS.Walk
import HandS.Zip
import HandS.Rev
import HandS.RevTup
import HandS.RevRange
import HandS.DictTup
import HandS.DictComp
import HandS.SortKw
import HandS.SortRule
import HandS.Deep
import HandS.Star
import HandS.MethStar
import HandS.Lambda
import HandS.Nested
import HandS.OwnEq
import HandS.TryMany
import HandS.ExcField
import HandS.ExcInit
import HandS.ExcSuper
import HandS.TupSets
import HandS.Conv
import HandS.StrMore
import HandS.FStr
import HandS.Wide
import HandS.Defaults
import HandS.CallLocal
import HandS.SetKeys
import HandS.Keys
import HandS.ListItems
import HandS.RaiseMore
import HandS.TupLe
import KE.GoesEnum
import PySem.Challenge.RW_lumpplans_k59_whole_sums_of_counts
set_option Elab.async false
set_option linter.all false
set_option maxRecDepth 100000
/-! Ev, part A: values, stores, how they stand in the hand layer's heap. -/
namespace Ev
open PySem L2

/-- a value: data as a tree; ref: a place of the store; cst: a thing of the written part (a def, a class, a type); ktp: a tuple of the written part -/
inductive D where
  | non | bl (b : Bool) | int (i : Int) | str (x : Str) | tup (xs : List D) | ref (n : Nat) | cst (v : V) | ktp (xs : List D)

/-- what stands in the store -/
inductive MO where
  | lst (xs : List D)
  | frz (xs : List D)
  | dicK (kvs : List (Key × D))
  | dicT (kvs : List (List Key × D))
  | ins (c : Nat) (fs : List (Str × D))

abbrev Store := List MO
abbrev Env := List (Option D)

inductive Out (α : Type) where
  | ok (a : α) (M : Store)
  | exc (x : Nat) (fs : List (Str × D)) (M : Store)
  | bad

def cap : Nat := 16777216
theorem cap_eq : cap = sizeLine := by decide +kernel

/-! ### how they stand -/
mutual
/-- rho: the addresses of the store's places -/
def Rep (K : PySem.W.Frag) (rho : List Addr) (H : Hp) : D → V → Prop
  | .non, v => v = .non
  | .bl b, v => v = .bl b
  | .int i, v => v = .int i
  | .str x, v => v = .str x
  | .tup ds, v => ∃ a vs, v = .ref a ∧ H a = some (.tup vs) ∧ Reps K rho H ds vs
  | .ktp ds, v => ∃ a vs, v = .ref a ∧ SqT K H a vs ∧ Reps K rho H ds vs
  | .ref n, v => ∃ a, v = .ref a ∧ rho[n]? = some a
  | .cst u, v => v = u
def Reps (K : PySem.W.Frag) (rho : List Addr) (H : Hp) : List D → List V → Prop
  | [], vs => vs = []
  | d :: ds, vs => ∃ v ws, vs = v :: ws ∧ Rep K rho H d v ∧ Reps K rho H ds ws
end

/-- later: more places, the tuples kept -/
structure Ext (rho : List Addr) (H : Hp) (rho' : List Addr) (H' : Hp) : Prop where
  pre : rho <+: rho'
  tups : ∀ b xs, H b = some (.tup xs) → H' b = some (.tup xs)
  frzs : ∀ b o u, H b = some (.frz o u) → H' b = some (.frz o u)

theorem Ext.refl (rho : List Addr) (H : Hp) : Ext rho H rho H := ⟨List.prefix_refl _, fun _ _ h => h, fun _ _ _ h => h⟩
theorem Ext.trans {r r1 r2 : List Addr} {H H1 H2 : Hp} (a : Ext r H r1 H1) (b : Ext r1 H1 r2 H2) : Ext r H r2 H2 :=
  ⟨List.IsPrefix.trans a.pre b.pre, fun c xs h => b.tups c xs (a.tups c xs h), fun c o u h => b.frzs c o u (a.frzs c o u h)⟩

section
variable {K : PySem.W.Frag} {rho rho' : List Addr} {H H' : Hp}
theorem Ext.get (e : Ext rho H rho' H') {n : Nat} {a : Addr} (h : rho[n]? = some a) : rho'[n]? = some a := by
  obtain ⟨t, rfl⟩ := e.pre
  have hn : n < rho.length := (List.getElem?_eq_some_iff.mp h).1
  rw [List.getElem?_append_left hn]; exact h
theorem Ext.rd (e : Ext rho H rho' H') {a : Addr} {vs : List V} (h : Rd H a (.tup vs)) : Rd H' a (.tup vs) := by
  rcases h with h | ⟨o, h⟩
  · exact .inl (e.tups _ _ h)
  · exact .inr ⟨o, e.frzs _ _ _ h⟩
theorem Ext.sq (e : Ext rho H rho' H') {a : Addr} {vs : List V} (h : SqT K H a vs) : SqT K H' a vs := by
  rcases h with h | h
  · exact .inl (e.rd h)
  · exact .inr h
mutual
theorem Rep.mono (e : Ext rho H rho' H') : ∀ (d : D) (v : V), Rep K rho H d v → Rep K rho' H' d v
  | .non, _, h => by simpa only [Rep] using h
  | .bl _, _, h => by simpa only [Rep] using h
  | .int _, _, h => by simpa only [Rep] using h
  | .str _, _, h => by simpa only [Rep] using h
  | .cst _, _, h => by simpa only [Rep] using h
  | .ref n, v, h => by
    simp only [Rep] at h ⊢
    obtain ⟨a, h1, h2⟩ := h
    exact ⟨a, h1, e.get h2⟩
  | .tup ds, v, h => by
    simp only [Rep] at h ⊢
    obtain ⟨a, vs, h1, h2, h3⟩ := h
    exact ⟨a, vs, h1, e.tups _ _ h2, Reps.mono e ds vs h3⟩
  | .ktp ds, v, h => by
    simp only [Rep] at h ⊢
    obtain ⟨a, vs, h1, h2, h3⟩ := h
    exact ⟨a, vs, h1, e.sq h2, Reps.mono e ds vs h3⟩
theorem Reps.mono (e : Ext rho H rho' H') : ∀ (ds : List D) (vs : List V), Reps K rho H ds vs → Reps K rho' H' ds vs
  | [], _, h => by simpa only [Reps] using h
  | d :: ds, vs, h => by
    simp only [Reps] at h ⊢
    obtain ⟨v, ws, h1, h2, h3⟩ := h
    exact ⟨v, ws, h1, Rep.mono e d v h2, Reps.mono e ds ws h3⟩
end
end

section
variable {K : PySem.W.Frag} {rho : List Addr} {H : Hp}
theorem Reps.length : ∀ {ds : List D} {vs : List V}, Reps K rho H ds vs → vs.length = ds.length
  | [], _, h => by simp only [Reps] at h; subst h; rfl
  | d :: ds, vs, h => by
    simp only [Reps] at h
    obtain ⟨v, ws, rfl, _, h3⟩ := h
    simp [Reps.length h3]
theorem Reps.nil : Reps K rho H [] [] := by simp [Reps]
theorem Reps.cons {d : D} {ds : List D} {v : V} {vs : List V} (h : Rep K rho H d v) (h' : Reps K rho H ds vs) : Reps K rho H (d :: ds) (v :: vs) := by
  simp only [Reps]; exact ⟨v, vs, rfl, h, h'⟩
theorem Reps.append : ∀ {ds es : List D} {vs ws : List V}, Reps K rho H ds vs → Reps K rho H es ws → Reps K rho H (ds ++ es) (vs ++ ws)
  | [], _, _, _, h, h' => by simp only [Reps] at h; subst h; exact h'
  | d :: ds, es, vs, ws, h, h' => by
    simp only [Reps] at h
    obtain ⟨v, us, rfl, h2, h3⟩ := h
    exact Reps.cons h2 (Reps.append h3 h')
theorem Reps.get : ∀ {ds : List D} {vs : List V} {i : Nat} {d : D}, Reps K rho H ds vs → ds[i]? = some d → ∃ v, vs[i]? = some v ∧ Rep K rho H d v
  | [], _, i, d, _, e => by simp at e
  | x :: ds, vs, 0, d, h, e => by
    simp only [Reps] at h
    obtain ⟨v, ws, rfl, h2, _⟩ := h
    simp at e; subst e
    exact ⟨v, rfl, h2⟩
  | x :: ds, vs, i + 1, d, h, e => by
    simp only [Reps] at h
    obtain ⟨v, ws, rfl, _, h3⟩ := h
    obtain ⟨w, h4, h5⟩ := Reps.get h3 (by simpa using e)
    exact ⟨w, by simpa using h4, h5⟩
theorem Reps.split : ∀ {ds es : List D} {vs : List V}, Reps K rho H (ds ++ es) vs → ∃ us ws, vs = us ++ ws ∧ Reps K rho H ds us ∧ Reps K rho H es ws
  | [], es, vs, h => ⟨[], vs, rfl, Reps.nil, h⟩
  | d :: ds, es, vs, h => by
    simp only [List.cons_append, Reps] at h
    obtain ⟨v, ws, rfl, h2, h3⟩ := h
    obtain ⟨us, xs, rfl, h4, h5⟩ := Reps.split h3
    exact ⟨v :: us, xs, rfl, Reps.cons h2 h4, h5⟩
theorem Reps.one {d : D} {vs : List V} (h : Reps K rho H [d] vs) : ∃ v, vs = [v] ∧ Rep K rho H d v := by
  simp only [Reps] at h
  obtain ⟨v, ws, rfl, h2, rfl⟩ := h
  exact ⟨v, rfl, h2⟩
theorem Reps.two {d e : D} {vs : List V} (h : Reps K rho H [d, e] vs) : ∃ v w, vs = [v, w] ∧ Rep K rho H d v ∧ Rep K rho H e w := by
  simp only [Reps] at h
  obtain ⟨v, ws, rfl, h2, w, _, rfl, h3, rfl⟩ := h
  exact ⟨v, w, rfl, h2, h3⟩
theorem Reps.three {d e f : D} {vs : List V} (h : Reps K rho H [d, e, f] vs) : ∃ v w x, vs = [v, w, x] ∧ Rep K rho H d v ∧ Rep K rho H e w ∧ Rep K rho H f x := by
  simp only [Reps] at h
  obtain ⟨v, ws, rfl, h2, w, _, rfl, h3, x, _, rfl, h4, rfl⟩ := h
  exact ⟨v, w, x, rfl, h2, h3, h4⟩
theorem Reps.set : ∀ {ds : List D} {vs : List V} {d : D} {v : V} (i : Nat), Reps K rho H ds vs → Rep K rho H d v → Reps K rho H (ds.set i d) (vs.set i v)
  | [], _, _, _, _, h, _ => by simp only [Reps] at h; subst h; exact Reps.nil
  | x :: ds, vs, d, v, 0, h, r => by
    simp only [Reps] at h
    obtain ⟨u, ws, rfl, h2, h3⟩ := h
    exact Reps.cons r h3
  | x :: ds, vs, d, v, i + 1, h, r => by
    simp only [Reps] at h
    obtain ⟨u, ws, rfl, h2, h3⟩ := h
    exact Reps.cons h2 (Reps.set i h3 r)
theorem Reps.drop : ∀ {ds : List D} {vs : List V} (i : Nat), Reps K rho H ds vs → Reps K rho H (ds.drop i) (vs.drop i)
  | _, _, 0, h => h
  | [], _, i + 1, h => by simp only [Reps] at h; subst h; exact Reps.nil
  | x :: ds, vs, i + 1, h => by
    simp only [Reps] at h
    obtain ⟨u, ws, rfl, h2, h3⟩ := h
    exact Reps.drop i h3
theorem Reps.take : ∀ {ds : List D} {vs : List V} (i : Nat), Reps K rho H ds vs → Reps K rho H (ds.take i) (vs.take i)
  | _, _, 0, _ => Reps.nil
  | [], _, i + 1, h => by simp only [Reps] at h; subst h; exact Reps.nil
  | x :: ds, vs, i + 1, h => by
    simp only [Reps] at h
    obtain ⟨u, ws, rfl, h2, h3⟩ := h
    exact Reps.cons h2 (Reps.take i h3)
theorem Reps.reverse : ∀ {ds : List D} {vs : List V}, Reps K rho H ds vs → Reps K rho H ds.reverse vs.reverse
  | [], _, h => by simp only [Reps] at h; subst h; exact Reps.nil
  | x :: ds, vs, h => by
    simp only [Reps] at h
    obtain ⟨u, ws, rfl, h2, h3⟩ := h
    rw [List.reverse_cons, List.reverse_cons]
    exact Reps.append (Reps.reverse h3) (Reps.cons h2 Reps.nil)
theorem Reps.erase : ∀ {ds : List D} {vs : List V} (i : Nat), Reps K rho H ds vs → Reps K rho H (ds.eraseIdx i) (vs.eraseIdx i)
  | [], _, _, h => by simp only [Reps] at h; subst h; exact Reps.nil
  | x :: ds, vs, 0, h => by
    simp only [Reps] at h
    obtain ⟨u, ws, rfl, h2, h3⟩ := h
    exact h3
  | x :: ds, vs, i + 1, h => by
    simp only [Reps] at h
    obtain ⟨u, ws, rfl, h2, h3⟩ := h
    exact Reps.cons h2 (Reps.erase i h3)
theorem Reps.rep {ds : List D} {vs : List V} (h : Reps K rho H ds vs) : ∀ k : Nat, Reps K rho H (List.replicate k ds).flatten (List.replicate k vs).flatten
  | 0 => Reps.nil
  | k + 1 => by
    rw [List.replicate_succ, List.replicate_succ, List.flatten_cons, List.flatten_cons]
    exact Reps.append h (Reps.rep h k)
theorem Reps.dropLast {ds : List D} {vs : List V} (h : Reps K rho H ds vs) : Reps K rho H ds.dropLast vs.dropLast := by
  rw [List.dropLast_eq_take, List.dropLast_eq_take, h.length]
  exact Reps.take _ h
end

/-- pairs of a key and a value -/
def RepKV {κ : Type} (K : PySem.W.Frag) (rho : List Addr) (H : Hp) (ds : List (κ × D)) (vs : List (κ × V)) : Prop :=
  ds.map (·.1) = vs.map (·.1) ∧ Reps K rho H (ds.map (·.2)) (vs.map (·.2))
theorem RepKV.mono {κ : Type} {K : PySem.W.Frag} {rho rho' : List Addr} {H H' : Hp} {ds : List (κ × D)} {vs : List (κ × V)} (e : Ext rho H rho' H') (h : RepKV K rho H ds vs) : RepKV K rho' H' ds vs :=
  ⟨h.1, h.2.mono e⟩

/-- a list that nobody writes -/
def FrzL (K : PySem.W.Frag) (H : Hp) (a : Addr) (vs : List V) : Prop :=
  (∃ o, H a = some (.frz o (.lst vs))) ∨
    ∃ (o : Obj) (its : Array Value) (n : Nat), K.lookup a = some o ∧ o.cls = .type "list" ∧ o.dict = none ∧ o.data = .seq its n ∧ its.size ≤ sizeLine ∧ Vals vs its.toList
theorem FrzL.sq {K : PySem.W.Frag} {H : Hp} {a : Addr} {vs : List V} (h : FrzL K H a vs) : SqL K H a vs := by
  rcases h with ⟨o, h⟩ | h
  · exact .inl (.inr ⟨o, h⟩)
  · exact .inr h
theorem FrzL.mono {K : PySem.W.Frag} {rho rho' : List Addr} {H H' : Hp} {a : Addr} {vs : List V} (e : Ext rho H rho' H') (h : FrzL K H a vs) : FrzL K H' a vs := by
  rcases h with ⟨o, h⟩ | h
  · exact .inl ⟨o, e.frzs _ _ _ h⟩
  · exact .inr h
def MO.isFrz : MO → Bool
  | .frz _ => true
  | _ => false

/-- an object of the store as it stands at a. T: the classes' addresses -/
def RepO (K : PySem.W.Frag) (T : List Addr) (rho : List Addr) (H : Hp) (a : Addr) : MO → Prop
  | .lst ds => ∃ vs, H a = some (.lst vs) ∧ Reps K rho H ds vs
  | .frz ds => ∃ vs, FrzL K H a vs ∧ Reps K rho H ds vs
  | .dicK ds => ∃ vs, H a = some (.dK vs) ∧ RepKV K rho H ds vs
  | .dicT ds => ∃ vs, H a = some (.dT vs) ∧ RepKV K rho H ds vs
  | .ins c fs => ∃ C dx vs, T[c]? = some C ∧ H a = some (.ins C dx vs) ∧ RepKV K rho H fs vs
theorem RepO.there {K : PySem.W.Frag} {T rho : List Addr} {H : Hp} {a : Addr} {o : MO} (h : RepO K T rho H a o) (hf : o.isFrz = false) : ∃ u, H a = some u ∧ Mut (some u) := by
  cases o with
  | lst ds => obtain ⟨vs, h1, _⟩ := h; exact ⟨_, h1, trivial⟩
  | frz ds => simp [MO.isFrz] at hf
  | dicK ds => obtain ⟨vs, h1, _⟩ := h; exact ⟨_, h1, trivial⟩
  | dicT ds => obtain ⟨vs, h1, _⟩ := h; exact ⟨_, h1, trivial⟩
  | ins c fs => obtain ⟨C, dx, vs, _, h1, _⟩ := h; exact ⟨_, h1, trivial⟩
theorem RepO.mono {K : PySem.W.Frag} {T rho rho' : List Addr} {H H' : Hp} {a : Addr} {o : MO} (h : RepO K T rho H a o) (e : Ext rho H rho' H') (ha : o.isFrz = false → H' a = H a) : RepO K T rho' H' a o := by
  cases o with
  | lst ds => obtain ⟨vs, h1, h2⟩ := h; exact ⟨vs, (ha rfl).trans h1, Reps.mono e _ _ h2⟩
  | frz ds => obtain ⟨vs, h1, h2⟩ := h; exact ⟨vs, h1.mono e, Reps.mono e _ _ h2⟩
  | dicK ds => obtain ⟨vs, h1, h2⟩ := h; exact ⟨vs, (ha rfl).trans h1, h2.mono e⟩
  | dicT ds => obtain ⟨vs, h1, h2⟩ := h; exact ⟨vs, (ha rfl).trans h1, h2.mono e⟩
  | ins c fs => obtain ⟨C, dx, vs, h0, h1, h2⟩ := h; exact ⟨C, dx, vs, h0, (ha rfl).trans h1, h2.mono e⟩

structure StR (K : PySem.W.Frag) (T : List Addr) (rho : List Addr) (H : Hp) (M : Store) : Prop where
  len : rho.length = M.length
  inj : ∀ (i j : Nat) (a : Addr) (o u : MO), rho[i]? = some a → rho[j]? = some a → M[i]? = some o → M[j]? = some u → o.isFrz = false → u.isFrz = false → i = j
  at_ : ∀ (n : Nat) (a : Addr) (o : MO), rho[n]? = some a → M[n]? = some o → RepO K T rho H a o

section
variable {K : PySem.W.Frag} {T rho : List Addr} {H : Hp} {M : Store}
/-- a new object is laid -/
theorem Ext.laid {p : Addr} {u : HO} (hp : H p = none) : Ext rho H rho (upd H p u) :=
  ⟨List.prefix_refl _, fun b xs h => by rw [upd_ne (ne_of_none h hp)]; exact h, fun b o u h => by rw [upd_ne (ne_of_none h hp)]; exact h⟩
theorem Ext.grow {p : Addr} : Ext rho H (rho ++ [p]) H := ⟨List.prefix_append _ _, fun _ _ h => h, fun _ _ _ h => h⟩
theorem Ext.write {p : Addr} {u : HO} (hp : Mut (H p)) : Ext rho H rho (upd H p u) :=
  ⟨List.prefix_refl _, fun b xs h => by rw [upd_ne (fun z => by subst z; rw [h] at hp; exact hp)]; exact h, fun b o u h => by rw [upd_ne (fun z => by subst z; rw [h] at hp; exact hp)]; exact h⟩
/-- the store as it was, behind something laid that is no object of it (a tuple) -/
theorem StR.laid {p : Addr} {u : HO} (S : StR K T rho H M) (hp : H p = none) : StR K T rho (upd H p u) M :=
  ⟨S.len, S.inj, fun n a o h1 h2 => (S.at_ n a o h1 h2).mono (Ext.laid hp) fun hf => by
    obtain ⟨w, hw, _⟩ := (S.at_ n a o h1 h2).there hf
    rw [upd_ne (ne_of_none hw hp)]⟩
/-- a new object of the store -/
theorem StR.alloc {p : Addr} {u : HO} {m : MO} (S : StR K T rho H M) (hp : H p = none) (hm : RepO K T (rho ++ [p]) (upd H p u) p m) : StR K T (rho ++ [p]) (upd H p u) (M ++ [m]) := by
  have key : ∀ (n : Nat) (a : Addr) (o : MO), rho[n]? = some a → M[n]? = some o → o.isFrz = false → a ≠ p := fun n a o h1 h2 hf => by
    obtain ⟨w, hw, _⟩ := (S.at_ n a o h1 h2).there hf
    exact ne_of_none hw hp
  have sp : ∀ (n : Nat) (a : Addr) (o : MO), (rho ++ [p])[n]? = some a → (M ++ [m])[n]? = some o → (rho[n]? = some a ∧ M[n]? = some o) ∨ (n = M.length ∧ a = p ∧ o = m) := fun n a o h1 h2 => by
    by_cases hn : n < M.length
    · rw [List.getElem?_append_left (by rw [S.len]; exact hn)] at h1
      rw [List.getElem?_append_left hn] at h2
      exact .inl ⟨h1, h2⟩
    · have hn' : n = M.length := by
        have := (List.getElem?_eq_some_iff.mp h2).1
        simp at this; omega
      subst hn'
      rw [← S.len] at h1
      simp at h1 h2
      exact .inr ⟨rfl, h1.symm, h2.symm⟩
  refine ⟨by simp [S.len], fun i j a o u' h1 h2 h3 h4 f1 f2 => ?_, fun n a o h1 h2 => ?_⟩
  · rcases sp i a o h1 h3 with ⟨a1, a2⟩ | ⟨a1, a2, a3⟩ <;> rcases sp j a u' h2 h4 with ⟨b1, b2⟩ | ⟨b1, b2, b3⟩
    · exact S.inj i j a o u' a1 b1 a2 b2 f1 f2
    · exact absurd b2 (key i a o a1 a2 f1)
    · exact absurd a2 (key j a u' b1 b2 f2)
    · omega
  · rcases sp n a o h1 h2 with ⟨a1, a2⟩ | ⟨a1, a2, a3⟩
    · exact (S.at_ n a o a1 a2).mono ((Ext.laid hp).trans Ext.grow) fun hf => by rw [upd_ne (key n a o a1 a2 hf)]
    · subst a2; subst a3; exact hm
/-- an object is written -/
theorem StR.write {n : Nat} {p : Addr} {u : HO} {m m' : MO} (S : StR K T rho H M) (hn : rho[n]? = some p) (ho : M[n]? = some m) (hf : m.isFrz = false) (hf' : m'.isFrz = false)
    (hm : RepO K T rho (upd H p u) p m') : StR K T rho (upd H p u) (M.set n m') := by
  obtain ⟨w, hw, hmu⟩ := (S.at_ n p m hn ho).there hf
  have E : Ext rho H rho (upd H p u) := Ext.write (by rw [hw]; exact hmu)
  have hl : n < M.length := (List.getElem?_eq_some_iff.mp ho).1
  have sp : ∀ (i : Nat) (o : MO), (M.set n m')[i]? = some o → (i = n ∧ o = m') ∨ (i ≠ n ∧ M[i]? = some o) := fun i o h => by
    by_cases hi : i = n
    · subst hi; rw [List.getElem?_set_self hl] at h; cases h; exact .inl ⟨rfl, rfl⟩
    · rw [List.getElem?_set_ne (Ne.symm hi)] at h; exact .inr ⟨hi, h⟩
  refine ⟨by simp [S.len], fun i j a o o' h1 h2 h3 h4 f1 f2 => ?_, fun i a o h1 h2 => ?_⟩
  · rcases sp i o h3 with ⟨a1, a2⟩ | ⟨a1, a2⟩ <;> rcases sp j o' h4 with ⟨b1, b2⟩ | ⟨b1, b2⟩
    · omega
    · subst a1; exact S.inj i j a m o' h1 h2 ho b2 hf f2
    · subst b1; exact S.inj i j a o m h1 h2 a2 ho f1 hf
    · exact S.inj i j a o o' h1 h2 a2 b2 f1 f2
  · rcases sp i o h2 with ⟨a1, a2⟩ | ⟨a1, a2⟩
    · subst a1; subst a2; rw [hn] at h1; cases h1; exact hm
    · refine (S.at_ i a o h1 a2).mono E fun f => ?_
      have : a ≠ p := fun z => by subst z; exact a1 (S.inj i n a o m h1 hn a2 ho f hf)
      rw [upd_ne this]
theorem StR.addr (S : StR K T rho H M) {n : Nat} {m : MO} (ho : M[n]? = some m) : ∃ a, rho[n]? = some a ∧ RepO K T rho H a m := by
  have hl : n < rho.length := by rw [S.len]; exact (List.getElem?_eq_some_iff.mp ho).1
  exact ⟨rho[n], List.getElem?_eq_getElem hl, S.at_ n _ m (List.getElem?_eq_getElem hl) ho⟩
end

/-- the slots -/
structure EnvR (K : PySem.W.Frag) (rho : List Addr) (H : Hp) (eta : Env) (σ : St) : Prop where
  len : eta.length = σ.length
  at_ : ∀ (i : Nat) (d : D), eta[i]? = some (some d) → ∃ v, σ[i]? = some (some v) ∧ Rep K rho H d v
end Ev

/-! Ev, part B: outcomes, readings, the first combinators. -/
namespace Ev
open PySem L2

def Out.bind {α β : Type} (o : Out α) (g : α → Store → Out β) : Out β :=
  match o with
  | .ok a M => g a M
  | .exc x fs M => .exc x fs M
  | .bad => .bad

/-- the written part that a program's evaluation leans on -/
structure Gd where
  K : PySem.W.Frag
  /-- the classes' addresses (own classes) -/
  T : List Addr
  /-- the exceptions' classes -/
  XT : List Addr

/-- an exception of class x with fields fs -/
def RepX (G : Gd) (rho : List Addr) (H : Hp) (x : Nat) (fs : List (Str × D)) (cls : Value) (dd : Option Addr) : Prop :=
  ∃ C, G.XT[x]? = some C ∧ cls = .ref C ∧ ((fs = [] ∧ dd = none) ∨ ∃ d vs, dd = some d ∧ H d = some (.xd vs) ∧ RepKV G.K rho H fs vs)

abbrev Kont (α : Type) := List Addr → Hp → α → Store → Prop

def Post (G : Gd) (W : WX) (σ : St) (rho : List Addr) (H : Hp) {α : Type} (Good : Kont α) : Out α → Prop
  | .ok a M => ∀ rho' H', Ext rho H rho' H' → StR G.K G.T rho' H' M → Good rho' H' a M
  | .exc x fs M => ∀ rho' H' cls dd, Ext rho H rho' H' → StR G.K G.T rho' H' M → RepX G rho' H' x fs cls dd → W cls dd σ H'
  | .bad => False

section
variable {G : Gd} {W : WX} {σ : St} {rho rho' : List Addr} {H H' : Hp} {α β : Type}
theorem Post.ext {Good : Kont α} {o : Out α} (h : Post G W σ rho H Good o) (e : Ext rho H rho' H') : Post G W σ rho' H' Good o := by
  cases o with
  | ok a M => exact fun r1 H1 e1 S1 => h r1 H1 (e.trans e1) S1
  | exc x fs M => exact fun r1 H1 c d e1 S1 X1 => h r1 H1 c d (e.trans e1) S1 X1
  | bad => exact h
theorem Post.imp {Good Good' : Kont α} {o : Out α} (h : Post G W σ rho H Good o) (k : ∀ rho' H' a M, Ext rho H rho' H' → StR G.K G.T rho' H' M → Good rho' H' a M → Good' rho' H' a M) : Post G W σ rho H Good' o := by
  cases o with
  | ok a M => exact fun r1 H1 e1 S1 => k r1 H1 a M e1 S1 (h r1 H1 e1 S1)
  | exc x fs M => exact h
  | bad => exact h
theorem Post.bind {Good : Kont β} {o : Out α} {g : α → Store → Out β} (h : Post G W σ rho H Good (o.bind g)) : Post G W σ rho H (fun rho' H' a M => Post G W σ rho' H' Good (g a M)) o := by
  cases o with
  | ok a M => exact fun r1 H1 e1 S1 => Post.ext h e1
  | exc x fs M => exact h
  | bad => exact h
theorem Post.now {Good : Kont α} {a : α} {M : Store} (h : Post G W σ rho H Good (.ok a M)) (S : StR G.K G.T rho H M) : Good rho H a M := h rho H (Ext.refl _ _) S
theorem EnvR.mono {K : PySem.W.Frag} {eta : Env} (E : EnvR K rho H eta σ) (e : Ext rho H rho' H') : EnvR K rho' H' eta σ :=
  ⟨E.len, fun i d h => let ⟨v, h1, h2⟩ := E.at_ i d h; ⟨v, h1, Rep.mono e _ _ h2⟩⟩
end

/-- an expression's evaluation -/
abbrev EvE := Env → Store → Out D
abbrev EvL := Env → Store → Out (List D)
abbrev EvT := Env → Store → Out Bool

def GoodD (K : PySem.W.Frag) (Q : VK) : Kont D := fun rho H d _ => ∀ v, Rep K rho H d v → Q v H
def GoodL (K : PySem.W.Frag) (Q : List V → Hp → Prop) : Kont (List D) := fun rho H ds _ => ∀ vs, Reps K rho H ds vs → Q vs H
def GoodB (Q : Bool → Hp → Prop) : Kont Bool := fun _ H b _ => Q b H

def tE (G : Gd) (W : WX) (f : EvE) : TE := fun σ H Q => ∃ eta M rho, EnvR G.K rho H eta σ ∧ StR G.K G.T rho H M ∧ Post G W σ rho H (GoodD G.K Q) (f eta M)
def tL (G : Gd) (W : WX) (f : EvL) : TA := fun σ H Q => ∃ eta M rho, EnvR G.K rho H eta σ ∧ StR G.K G.T rho H M ∧ Post G W σ rho H (GoodL G.K Q) (f eta M)
def tT (G : Gd) (W : WX) (f : EvT) : TT := fun σ H Q => ∃ eta M rho, EnvR G.K rho H eta σ ∧ StR G.K G.T rho H M ∧ Post G W σ rho H (GoodB Q) (f eta M)

/-! ### judgements: a piece of syntax and its evaluation -/
def PEv (G : Gd) (X : Cx) (W : WX) (f : EvE) (e : Expr) : Prop := PE X e (tE G W f)
def PLv (G : Gd) (X : Cx) (W : WX) (f : EvL) (es : List Expr) : Prop := PA X es (tL G W f)
def PTv (G : Gd) (X : Cx) (W : WX) (f : EvT) (e : Expr) : Prop := PT X e (tT G W f)
def PWv (G : Gd) (X : Cx) (W : WX) (f : EvT) (e : Expr) : Prop := PW X e (tT G W f)

theorem PE.weak {X : Cx} {e : Expr} {t t' : TE} (h : PE X e t) (k : ∀ σ H Q, t' σ H Q → t σ H Q) : PE X e t' := ⟨fun pins s σ H Q I q => h.run pins s σ H Q I (k σ H Q q)⟩
theorem PT.weak {X : Cx} {e : Expr} {t t' : TT} (h : PT X e t) (k : ∀ σ H Q, t' σ H Q → t σ H Q) : PT X e t' := ⟨fun pins s σ H Q I q => h.run pins s σ H Q I (k σ H Q q)⟩
theorem PW.weak {X : Cx} {e : Expr} {t t' : TT} (h : PW X e t) (k : ∀ σ H Q, t' σ H Q → t σ H Q) : PW X e t' := ⟨fun wh pins s σ H Q I q => h.run wh pins s σ H Q I (k σ H Q q)⟩
theorem PA.weak {X : Cx} {e : List Expr} {t t' : TA} (h : PA X e t) (k : ∀ σ H Q, t' σ H Q → t σ H Q) : PA X e t' := ⟨fun pos pins s σ H Q I q => h.run pos pins s σ H Q I (k σ H Q q)⟩
theorem PS.weak {X : Cx} {e : Stmt} {t t' : TS} (h : PS X e t) (k : ∀ D σ H, t' D σ H → t D σ H) : PS X e t' := ⟨fun pins s σ H D I q => h.run pins s σ H D I (k D σ H q)⟩
theorem PSs.weak {X : Cx} {e : List Stmt} {t t' : TS} (h : PSs X e t) (k : ∀ D σ H, t' D σ H → t D σ H) : PSs X e t' := ⟨fun pins s σ H D I q => h.run pins s σ H D I (k D σ H q)⟩

/-! ### constants and names -/
def eVar (i : Nat) : EvE := fun eta M => match eta[i]? with
  | some (some d) => .ok d M
  | _ => .bad
def eC (d : D) : EvE := fun _ M => .ok d M

section
variable {G : Gd} {X : Cx} {W : WX}
theorem ev_var {i : Nat} {x : Str} {pos : Pos} (hN : X.N[i]? = some x := by rfl) (hv : Vis X.env.scope x := by first | exact Or.inl rfl | exact Or.inr (Or.inl rfl) | exact Or.inr (Or.inr rfl))
    (hd : (x == ("__debug__" : Str)) = false := by decide) (hcd : (x == ("__classdict__" : Str)) = false := by decide) : PEv G X W (eVar i) (.Name x pos) :=
  PE.weak (pe_var hN hv hd hcd) fun σ H Q ⟨eta, M, rho, E, S, P⟩ => by
    unfold eVar at P
    cases e : eta[i]? with
    | none => rw [e] at P; exact P.elim
    | some o =>
      cases o with
      | none => rw [e] at P; exact P.elim
      | some d =>
        rw [e] at P
        obtain ⟨v, h1, h2⟩ := E.at_ i d e
        exact ⟨v, h1, P.now S v h2⟩
theorem ev_const {e : Expr} {d : D} {v : V} (h : PE X e (tC v)) (r : ∀ rho H, Rep G.K rho H d v) : PEv G X W (eC d) e :=
  PE.weak h fun σ H Q ⟨eta, M, rho, E, S, P⟩ => P.now S v (r rho H)
theorem ev_int {i : Int} {j pos} : PEv G X W (eC (.int i)) (.Constant (.int i) j pos) := ev_const pe_int fun _ _ => by simp [Rep]
theorem ev_bl {b : Bool} {j pos} : PEv G X W (eC (.bl b)) (.Constant (.bool b) j pos) := ev_const pe_bl fun _ _ => by simp [Rep]
theorem ev_non {j pos} : PEv G X W (eC .non) (.Constant .none j pos) := ev_const pe_non fun _ _ => by simp [Rep]
theorem ev_str {x : Str} {j pos} : PEv G X W (eC (.str x)) (.Constant (.str x) j pos) := ev_const pe_str fun _ _ => by simp [Rep]
/-- a global that is known -/
theorem ev_glob {x : Str} {u : Value} {d : D} {v : V} {pos : Pos} (hg : Gl X x) (hm : X.mg x = some u) (r : RelV v u) (hr : ∀ rho H, Rep G.K rho H d v) (hd : (x == ("__debug__" : Str)) = false := by decide) : PEv G X W (eC d) (.Name x pos) :=
  ev_const (pe_glob hg hm r hd) hr
theorem ev_ty {x : Str} {n : String} {pos : Pos} (hg : Gl X x) (hm : X.mg x = none) (hv : bootBuiltins x = some (.type n)) (hn : x ≠ "__name__" := by decide) (hd : (x == ("__debug__" : Str)) = false := by decide) : PEv G X W (eC (.cst (.ty n))) (.Name x pos) :=
  ev_const (v := .ty n) (pe_bltn hg hm hv (by rfl) hn hd) fun _ _ => by simp [Rep]
end

/-! ### two in a row -/
def eBin (f : D → D → Store → Out D) (a b : EvE) : EvE := fun eta M => (a eta M).bind fun x M1 => (b eta M1).bind fun y M2 => f x y M2
def eUn (f : D → Store → Out D) (a : EvE) : EvE := fun eta M => (a eta M).bind fun x M1 => f x M1

/-- an operation on values is what the hand layer's reading asks -/
def OpS (G : Gd) (f : D → D → Store → Out D) (r : R2) : Prop :=
  ∀ (W : WX) (σ : St) (rho : List Addr) (H : Hp) (M : Store) (x y : D) (v w : V) (Q : VK), StR G.K G.T rho H M → Rep G.K rho H x v → Rep G.K rho H y w → Post G W σ rho H (GoodD G.K Q) (f x y M) → r v w H Q
def UnS (G : Gd) (f : D → Store → Out D) (r : V → Hp → VK → Prop) : Prop :=
  ∀ (W : WX) (σ : St) (rho : List Addr) (H : Hp) (M : Store) (x : D) (v : V) (Q : VK), StR G.K G.T rho H M → Rep G.K rho H x v → Post G W σ rho H (GoodD G.K Q) (f x M) → r v H Q

section
variable {G : Gd} {X : Cx} {W : WX}
/-- the reading of two in a row, whatever comes behind -/
theorem tE2 {fa fb : EvE} {α : Type} {g : D → D → Store → Out α} {σ : St} {H : Hp} {rho : List Addr} {eta : Env} {M : Store} {Good : Kont α} (E : EnvR G.K rho H eta σ) (S : StR G.K G.T rho H M)
    (P : Post G W σ rho H Good ((fa eta M).bind fun x M1 => (fb eta M1).bind fun y M2 => g x y M2)) {R : V → V → Hp → Prop}
    (k : ∀ rho2 H2 M2 x y v w, EnvR G.K rho2 H2 eta σ → StR G.K G.T rho2 H2 M2 → Rep G.K rho2 H2 x v → Rep G.K rho2 H2 y w → Post G W σ rho2 H2 Good (g x y M2) → R v w H2) :
    tE G W fa σ H fun v H1 => tE G W fb σ H1 fun w H2 => R v w H2 :=
  ⟨eta, M, rho, E, S, P.bind.imp fun r1 H1 x M1 e1 S1 P1 v rv => ⟨eta, M1, r1, E.mono e1, S1, P1.bind.imp fun r2 H2 y M2 e2 S2 P2 w rw' => k r2 H2 M2 x y v w ((E.mono e1).mono e2) S2 (Rep.mono e2 _ _ rv) rw' P2⟩⟩
theorem ev_bin {op : Operator} {f : D → D → Store → Out D} {r : R2} {fa fb : EvE} {a b : Expr} {pos : Pos} (ho : OpR X (binaryOp op) r) (hs : OpS G f r) (ha : PEv G X W fa a) (hb : PEv G X W fb b) : PEv G X W (eBin f fa fb) (.BinOp a op b pos) :=
  PE.weak (pe_op ho ha hb) fun σ H Q ⟨eta, M, rho, E, S, P⟩ => tE2 E S P fun r2 H2 M2 x y v w _ S2 rx ry P2 => hs W σ r2 H2 M2 x y v w Q S2 rx ry P2
theorem ev_un {op : UnaryOp} {f : D → Store → Out D} {r : V → Hp → VK → Prop} {fa : EvE} {a : Expr} {pos : Pos} (ho : UnR X (unaryOp op) r) (hs : UnS G f r) (ha : PEv G X W fa a) : PEv G X W (eUn f fa) (.UnaryOp op a pos) :=
  PE.weak (pe_un ho ha) fun σ H Q ⟨eta, M, rho, E, S, P⟩ => ⟨eta, M, rho, E, S, P.bind.imp fun r1 H1 x M1 e1 S1 P1 v rv => hs W σ r1 H1 M1 x v Q S1 rv P1⟩
theorem ev_cmp {op : CmpOp} {f : D → D → Store → Out D} {r : R2} {fa fb : EvE} {a b : Expr} {pos : Pos} (ho : OpR X (compareOp op) r) (hs : OpS G f r) (ha : PEv G X W fa a) (hb : PEv G X W fb b)
    (hm : behindInMarks op b = false := by rfl) : PEv G X W (eBin f fa fb) (.Compare a [op] [b] pos) :=
  PE.weak (pe_cmpR ho ha hb hm) fun σ H Q ⟨eta, M, rho, E, S, P⟩ => tE2 E S P fun r2 H2 M2 x y v w _ S2 rx ry P2 => hs W σ r2 H2 M2 x y v w Q S2 rx ry P2
end

/-! ### tests -/
/-- a bool value as a test -/
def asB (x : D) (M : Store) : Out Bool := match x with
  | .bl b => .ok b M
  | _ => .bad
def tOf (f : EvE) : EvT := fun eta M => (f eta M).bind asB
/-- a value's truth -/
def truthD (x : D) (M : Store) : Out Bool := match x with
  | .non => .ok false M
  | .bl b => .ok b M
  | .int i => .ok (i != 0) M
  | .str z => if z.length ≤ cap then .ok ((z.length : Int) != 0) M else .bad
  | .tup ds => .ok (!ds.isEmpty) M
  | .ref n => (match M[n]? with
    | some (.lst ds) => .ok (!ds.isEmpty) M
    | some (.frz ds) => .ok (!ds.isEmpty) M
    | some (.dicK ds) => .ok (!ds.isEmpty) M
    | _ => .bad)
  | .cst _ => .bad
  | .ktp _ => .bad
def tTru (f : EvE) : EvT := fun eta M => (f eta M).bind truthD
def tNt (f : EvT) : EvT := fun eta M => (f eta M).bind fun b M1 => .ok (!b) M1
def tAn (f g : EvT) : EvT := fun eta M => (f eta M).bind fun b M1 => if b = true then g eta M1 else .ok false M1
def tOrr (f g : EvT) : EvT := fun eta M => (f eta M).bind fun b M1 => if b = true then .ok true M1 else g eta M1

section
variable {G : Gd} {X : Cx} {W : WX}
theorem isEmpty_reps {rho : List Addr} {H : Hp} {ds : List D} {vs : List V} (h : Reps G.K rho H ds vs) : vs.isEmpty = ds.isEmpty := by
  cases ds with
  | nil => simp only [Reps] at h; subst h; rfl
  | cons d ds => simp only [Reps] at h; obtain ⟨v, ws, rfl, _⟩ := h; rfl
theorem isEmpty_kv {κ : Type} {rho : List Addr} {H : Hp} {ds : List (κ × D)} {vs : List (κ × V)} (h : RepKV G.K rho H ds vs) : vs.isEmpty = ds.isEmpty := by
  have := h.2.length
  simp at this
  cases ds <;> cases vs <;> simp_all
theorem truthD_ok (hK : X.K = G.K) {σ : St} {rho : List Addr} {H : Hp} {M : Store} {x : D} {v : V} {Q : Bool → Hp → Prop} (S : StR G.K G.T rho H M) (r : Rep G.K rho H x v) (P : Post G W σ rho H (GoodB Q) (truthD x M)) :
    ∃ k, TruV X.K v H k ∧ Q k H := by
  rw [hK]
  cases x with
  | non => simp only [Rep] at r; subst r; exact ⟨false, rfl, P.now S⟩
  | bl b => simp only [Rep] at r; subst r; exact ⟨b, rfl, P.now S⟩
  | int i => simp only [Rep] at r; subst r; exact ⟨_, rfl, P.now S⟩
  | str z =>
    simp only [Rep] at r; subst r
    simp only [truthD] at P
    split at P
    · rename_i h; exact ⟨_, ⟨by rw [← cap_eq]; exact h, rfl⟩, P.now S⟩
    · exact P.elim
  | tup ds =>
    simp only [Rep] at r
    obtain ⟨a, vs, rfl, h1, h2⟩ := r
    exact ⟨_, .inr (.inl ⟨vs, SqT.of h1, rfl⟩), by rw [isEmpty_reps h2]; exact P.now S⟩
  | cst u => exact P.elim
  | ktp u => exact P.elim
  | ref n =>
    simp only [Rep] at r
    obtain ⟨a, rfl, h1⟩ := r
    simp only [truthD] at P
    cases e : M[n]? with
    | none => rw [e] at P; exact P.elim
    | some o =>
      rw [e] at P
      have ro := S.at_ n a o h1 e
      cases o with
      | lst ds => obtain ⟨vs, g1, g2⟩ := ro; exact ⟨_, .inl ⟨vs, SqL.of g1, rfl⟩, by rw [isEmpty_reps g2]; exact P.now S⟩
      | frz ds => obtain ⟨vs, g1, g2⟩ := ro; exact ⟨_, .inl ⟨vs, g1.sq, rfl⟩, by rw [isEmpty_reps g2]; exact P.now S⟩
      | dicK ds => obtain ⟨vs, g1, g2⟩ := ro; exact ⟨_, .inr (.inr ⟨vs, g1, rfl⟩), by rw [isEmpty_kv g2]; exact P.now S⟩
      | dicT ds => exact P.elim
      | ins c fs => exact P.elim
theorem tv_cmp {op : CmpOp} {f : D → D → Store → Out D} {r : R2} {fa fb : EvE} {a b : Expr} {pos : Pos} (ho : OpR X (compareOp op) r) (hs : OpS G f r) (ha : PEv G X W fa a) (hb : PEv G X W fb b)
    (hm : behindInMarks op b = false := by rfl) : PTv G X W (tOf (eBin f fa fb)) (.Compare a [op] [b] pos) :=
  PT.weak (pt_cmpR ho ha hb hm) fun σ H Q ⟨eta, M, rho, E, S, P⟩ => by
    have P' : Post G W σ rho H (GoodB Q) ((fa eta M).bind fun x M1 => (fb eta M1).bind fun y M2 => (f x y M2).bind asB) := by
      have e : (tOf (eBin f fa fb) eta M) = ((fa eta M).bind fun x M1 => (fb eta M1).bind fun y M2 => (f x y M2).bind asB) := by
        unfold tOf eBin
        cases fa eta M <;> simp only [Out.bind]
        rename_i x M1
        cases fb eta M1 <;> simp only [Out.bind]
      rw [e] at P; exact P
    refine tE2 E S P' fun r2 H2 M2 x y v w _ S2 rx ry P2 => hs W σ r2 H2 M2 x y v w _ S2 rx ry ?_
    refine P2.bind.imp fun r3 H3 z M3 e3 S3 P3 u ru => ?_
    cases z with
    | bl b => simp only [Rep] at ru; subst ru; exact ⟨b, rfl, P3.now S3⟩
    | _ => exact P3.elim
/-- any expression whose test is its value's truth -/
theorem tv_val (hK : X.K = G.K) {f : EvE} {e : Expr} (h : PEv G X W f e) (he : ∀ whole, isTrue e X.env whole = (do let v ← whole; standAt e.pos; holding [v] (truthy v)) := by intro _; rfl) : PTv G X W (tTru f) e :=
  PT.weak (pt_truth h he) fun σ H Q ⟨eta, M, rho, E, S, P⟩ => ⟨eta, M, rho, E, S, P.bind.imp fun r1 H1 x M1 e1 S1 P1 v rv => truthD_ok hK S1 rv P1⟩
theorem tv_not {f : EvT} {e : Expr} {pos : Pos} (h : PTv G X W f e) : PTv G X W (tNt f) (.UnaryOp .Not e pos) :=
  PT.weak (pt_not h) fun σ H Q ⟨eta, M, rho, E, S, P⟩ => ⟨eta, M, rho, E, S, P.bind.imp fun r1 H1 b M1 e1 S1 P1 => P1.now S1⟩
theorem wv_and1 {f : EvT} {e : Expr} {pos : Pos} (h : PTv G X W f e) : PWv G X W f (.BoolOp .And [e] pos) := pw_and1 h
theorem wv_or1 {f : EvT} {e : Expr} {pos : Pos} (h : PTv G X W f e) : PWv G X W f (.BoolOp .Or [e] pos) := pw_or1 h
theorem wv_and {f g : EvT} {a b : Expr} {rest : List Expr} {pos : Pos} (ha : PTv G X W f a) (hb : PWv G X W g (.BoolOp .And (b :: rest) pos)) : PWv G X W (tAn f g) (.BoolOp .And (a :: b :: rest) pos) :=
  PW.weak (pw_and ha hb) fun σ H Q ⟨eta, M, rho, E, S, P⟩ => ⟨eta, M, rho, E, S, P.bind.imp fun r1 H1 c M1 e1 S1 P1 => by
    cases c with
    | true => exact ⟨eta, M1, r1, E.mono e1, S1, P1⟩
    | false => exact P1.now S1⟩
theorem wv_or {f g : EvT} {a b : Expr} {rest : List Expr} {pos : Pos} (ha : PTv G X W f a) (hb : PWv G X W g (.BoolOp .Or (b :: rest) pos)) : PWv G X W (tOrr f g) (.BoolOp .Or (a :: b :: rest) pos) :=
  PW.weak (pw_or ha hb) fun σ H Q ⟨eta, M, rho, E, S, P⟩ => ⟨eta, M, rho, E, S, P.bind.imp fun r1 H1 c M1 e1 S1 P1 => by
    cases c with
    | true => exact P1.now S1
    | false => exact ⟨eta, M1, r1, E.mono e1, S1, P1⟩⟩
theorem tv_bool {f : EvT} {e : Expr} (h : PWv G X W f e) : PTv G X W f e := PW.pt h
end

/-! ### bools as values -/
def eNt (f : EvE) : EvE := fun eta M => (f eta M).bind fun x M1 => (truthD x M1).bind fun b M2 => .ok (.bl (!b)) M2
def eAn (f g : EvE) : EvE := fun eta M => (f eta M).bind fun x M1 => (truthD x M1).bind fun b M2 => if b = true then g eta M2 else .ok x M2
def eOrr (f g : EvE) : EvE := fun eta M => (f eta M).bind fun x M1 => (truthD x M1).bind fun b M2 => if b = true then .ok x M2 else g eta M2
def eIf (c : EvT) (f g : EvE) : EvE := fun eta M => (c eta M).bind fun b M1 => if b = true then f eta M1 else g eta M1
section
variable {G : Gd} {X : Cx} {W : WX}
theorem ev_if {c : EvT} {f g : EvE} {ec ea eb : Expr} {pos : Pos} (hc : PTv G X W c ec) (ha : PEv G X W f ea) (hb : PEv G X W g eb) : PEv G X W (eIf c f g) (.IfExp ec ea eb pos) :=
  PE.weak (pe_ifExp hc ha hb) fun σ H Q ⟨eta, M, rho, E, S, P⟩ => ⟨eta, M, rho, E, S, P.bind.imp fun r1 H1 b M1 e1 S1 P1 => by
    cases b with
    | true => exact ⟨eta, M1, r1, E.mono e1, S1, P1⟩
    | false => exact ⟨eta, M1, r1, E.mono e1, S1, P1⟩⟩
end
end Ev

/-! Ev, part C: operations on values. -/
namespace Ev
open PySem L2

/-! ### values as the library's data -/
mutual
def pyD : D → Option PyData
  | .non => some .none
  | .bl b => some (.bool b)
  | .int i => some (.int i)
  | .str x => some (.str x)
  | .tup ds => (pyDs ds).map .tuple
  | .ref _ => none
  | .cst _ => none
  | .ktp ds => (pyDs ds).map .tuple
def pyDs : List D → Option (List PyData)
  | [] => some []
  | d :: ds => match pyD d, pyDs ds with
    | some p, some ps => some (p :: ps)
    | _, _ => none
end
/-- every member by f -/
def allBy (f : D → Option PyData) : List D → Option (List PyData)
  | [] => some []
  | d :: ds => match f d, allBy f ds with
    | some p, some ps => some (p :: ps)
    | _, _ => none
def toPy (M : Store) : Nat → D → Option PyData
  | 0, d => pyD d
  | n + 1, d => match pyD d with
    | some p => some p
    | none => match d with
      | .ref i => (match M[i]? with
        | some (.lst ds) => (allBy (toPy M n) ds).map .list
        | some (.frz ds) => (allBy (toPy M n) ds).map .list
        | _ => none)
      | .tup ds => (allBy (toPy M n) ds).map .tuple
      | _ => none

section
variable {K : PySem.W.Frag} {T rho : List Addr} {H : Hp} {M : Store}
mutual
theorem pyD_dp : ∀ (d : D) (p : PyData) (v : V), pyD d = some p → Rep K rho H d v → Dp K H v p
  | .non, p, v, h, r => by simp only [pyD, Option.some.injEq] at h; simp only [Rep] at r; subst h r; exact .non
  | .bl b, p, v, h, r => by simp only [pyD, Option.some.injEq] at h; simp only [Rep] at r; subst h r; exact .bl b
  | .int i, p, v, h, r => by simp only [pyD, Option.some.injEq] at h; simp only [Rep] at r; subst h r; exact .int i
  | .str x, p, v, h, r => by simp only [pyD, Option.some.injEq] at h; simp only [Rep] at r; subst h r; exact .str x
  | .ref _, p, v, h, _ => by simp [pyD] at h
  | .cst _, p, v, h, _ => by simp [pyD] at h
  | .tup ds, p, v, h, r => by
    simp only [pyD, Option.map_eq_some_iff] at h
    obtain ⟨ps, h1, rfl⟩ := h
    simp only [Rep] at r
    obtain ⟨a, vs, rfl, h2, h3⟩ := r
    exact .tup (SqT.of h2) (pyDs_dp ds ps vs h1 h3)
  | .ktp ds, p, v, h, r => by
    simp only [pyD, Option.map_eq_some_iff] at h
    obtain ⟨ps, h1, rfl⟩ := h
    simp only [Rep] at r
    obtain ⟨a, vs, rfl, h2, h3⟩ := r
    exact .tup h2 (pyDs_dp ds ps vs h1 h3)
theorem pyDs_dp : ∀ (ds : List D) (ps : List PyData) (vs : List V), pyDs ds = some ps → Reps K rho H ds vs → DpAll K H vs ps
  | [], ps, vs, h, r => by simp only [pyDs, Option.some.injEq] at h; simp only [Reps] at r; subst h r; exact .nil
  | d :: ds, ps, vs, h, r => by
    simp only [Reps] at r
    obtain ⟨v, ws, rfl, r1, r2⟩ := r
    simp only [pyDs] at h
    split at h
    · rename_i p qs h1 h2
      simp only [Option.some.injEq] at h
      subst h
      exact .cons (pyD_dp d p v h1 r1) (pyDs_dp ds qs ws h2 r2)
    · cases h
end
theorem allBy_dp {f : D → Option PyData} (hf : ∀ d p v, f d = some p → Rep K rho H d v → Dp K H v p) : ∀ (ds : List D) (ps : List PyData) (vs : List V), allBy f ds = some ps → Reps K rho H ds vs → DpAll K H vs ps
  | [], ps, vs, h, r => by simp only [allBy, Option.some.injEq] at h; simp only [Reps] at r; subst h r; exact .nil
  | d :: ds, ps, vs, h, r => by
    simp only [Reps] at r
    obtain ⟨v, ws, rfl, r1, r2⟩ := r
    simp only [allBy] at h
    split at h
    · rename_i p qs h1 h2
      simp only [Option.some.injEq] at h
      subst h
      exact .cons (hf d p v h1 r1) (allBy_dp hf ds qs ws h2 r2)
    · cases h
theorem toPy_dp (S : StR K T rho H M) : ∀ (n : Nat) (d : D) (p : PyData) (v : V), toPy M n d = some p → Rep K rho H d v → Dp K H v p
  | 0, d, p, v, h, r => pyD_dp d p v (by simpa only [toPy] using h) r
  | n + 1, d, p, v, h, r => by
    simp only [toPy] at h
    split at h
    · rename_i q hq
      simp only [Option.some.injEq] at h
      subst h
      exact pyD_dp d q v hq r
    · split at h
      · rename_i i
        simp only [Rep] at r
        obtain ⟨a, rfl, ha⟩ := r
        split at h
        · rename_i ds hm
          obtain ⟨vs, g1, g2⟩ := S.at_ _ a _ ha hm
          simp only [Option.map_eq_some_iff] at h
          obtain ⟨ps, h1, rfl⟩ := h
          exact .lst (SqL.of g1) (allBy_dp (toPy_dp S n) ds ps vs h1 g2)
        · rename_i ds hm
          obtain ⟨vs, g1, g2⟩ := S.at_ _ a _ ha hm
          simp only [Option.map_eq_some_iff] at h
          obtain ⟨ps, h1, rfl⟩ := h
          exact .lst g1.sq (allBy_dp (toPy_dp S n) ds ps vs h1 g2)
        · cases h
      · rename_i ds _
        simp only [Rep] at r
        obtain ⟨a, vs, rfl, h2, h3⟩ := r
        simp only [Option.map_eq_some_iff] at h
        obtain ⟨ps, h1, rfl⟩ := h
        exact .tup (SqT.of h2) (allBy_dp (toPy_dp S n) ds ps vs h1 h3)
      · cases h
end

/-! ### arithmetic -/
def mulOk (i j : Int) : Bool := decide (-(2 ^ 64) < i ∧ i < 2 ^ 64) || decide (-(2 ^ 64) < j ∧ j < 2 ^ 64) || decide (i.natAbs.log2 + j.natAbs.log2 < 1000000)
def dAdd (x y : D) (M : Store) : Out D := match x, y with
  | .int i, .int j => .ok (.int (i + j)) M
  | .str a, .str b => if a.length + b.length ≤ cap then .ok (.str (a ++ b)) M else .bad
  | .tup as, .tup bs => if as.length + bs.length ≤ cap then .ok (.tup (as ++ bs)) M else .bad
  | .ref m, .ref n => (match M[m]?, M[n]? with
    | some (.lst as), some (.lst bs) => if as.length + bs.length ≤ cap then .ok (.ref M.length) (M ++ [.lst (as ++ bs)]) else .bad
    | _, _ => .bad)
  | _, _ => .bad
def dSub (x y : D) (M : Store) : Out D := match x, y with
  | .int i, .int j => .ok (.int (i - j)) M
  | _, _ => .bad
def dMul (x y : D) (M : Store) : Out D := match x, y with
  | .int i, .int j => if mulOk i j = true then .ok (.int (i * j)) M else .bad
  | .ref n, .int k => (match M[n]? with
    | some (.lst as) => if -(2 ^ 63) ≤ k ∧ k < 2 ^ 63 ∧ as.length * k.toNat ≤ cap then .ok (.ref M.length) (M ++ [.lst (List.replicate k.toNat as).flatten]) else .bad
    | _ => .bad)
  | .tup as, .int k => if as ≠ [] ∧ 2 ≤ k ∧ k ≤ 1000 ∧ as.length ≤ 1000 then .ok (.tup (List.replicate k.toNat as).flatten) M else .bad
  | _, _ => .bad
def dFdiv (x y : D) (M : Store) : Out D := match x, y with
  | .int i, .int j => if 0 < j ∧ j.natAbs.log2 < 9000 then .ok (.int (i / j)) M else .bad
  | _, _ => .bad
def dMod (x y : D) (M : Store) : Out D := match x, y with
  | .int i, .int j => if 0 < j then .ok (.int (i % j)) M else .bad
  | _, _ => .bad
def dPow (x y : D) (M : Store) : Out D := match x, y with
  | .int i, .int j => if 0 ≤ j ∧ j ≤ 1000000 ∧ i.natAbs < 2 ^ 64 then .ok (.int (i ^ j.toNat)) M else .bad
  | _, _ => .bad
def dNeg (x : D) (M : Store) : Out D := match x with
  | .int i => .ok (.int (-i)) M
  | _ => .bad

section
variable {G : Gd} {X : Cx} {W : WX}
/-- a new list -/
theorem new_lst {σ : St} {rho : List Addr} {H : Hp} {M : Store} {Q : VK} {ds : List D} {vs : List V} (S : StR G.K G.T rho H M) (r : Reps G.K rho H ds vs)
    (P : Post G W σ rho H (GoodD G.K Q) (.ok (.ref M.length) (M ++ [.lst ds]))) : ∀ p, H p = none → Q (.ref p) (upd H p (.lst vs)) := fun p hp => by
  have E : Ext rho H (rho ++ [p]) (upd H p (.lst vs)) := (Ext.laid hp).trans Ext.grow
  refine P (rho ++ [p]) _ E (S.alloc hp ⟨vs, upd_same, Reps.mono E _ _ r⟩) (.ref p) ?_
  simp only [Rep]
  exact ⟨p, rfl, by rw [← S.len, List.getElem?_append_right (Nat.le_refl _)]; simp⟩
/-- a new tuple -/
theorem new_tup {σ : St} {rho : List Addr} {H : Hp} {M : Store} {Q : VK} {ds : List D} {vs : List V} (S : StR G.K G.T rho H M) (r : Reps G.K rho H ds vs)
    (P : Post G W σ rho H (GoodD G.K Q) (.ok (.tup ds) M)) : ∀ p, H p = none → Q (.ref p) (upd H p (.tup vs)) := fun p hp => by
  have E : Ext rho H rho (upd H p (.tup vs)) := Ext.laid hp
  refine P rho _ E (S.laid hp) (.ref p) ?_
  simp only [Rep]
  exact ⟨p, vs, rfl, upd_same, Reps.mono E _ _ r⟩
theorem rep_ref {K : PySem.W.Frag} {rho : List Addr} {H : Hp} {n : Nat} {v : V} (r : Rep K rho H (.ref n) v) : ∃ a, v = .ref a ∧ rho[n]? = some a := by simpa only [Rep] using r
theorem rep_tup {K : PySem.W.Frag} {rho : List Addr} {H : Hp} {ds : List D} {v : V} (r : Rep K rho H (.tup ds) v) : ∃ a vs, v = .ref a ∧ H a = some (.tup vs) ∧ Reps K rho H ds vs := by simpa only [Rep] using r
theorem rep_int {K : PySem.W.Frag} {rho : List Addr} {H : Hp} {i : Int} {v : V} (r : Rep K rho H (.int i) v) : v = .int i := by simpa only [Rep] using r
theorem rep_str {K : PySem.W.Frag} {rho : List Addr} {H : Hp} {i : Str} {v : V} (r : Rep K rho H (.str i) v) : v = .str i := by simpa only [Rep] using r
theorem rep_bl {K : PySem.W.Frag} {rho : List Addr} {H : Hp} {i : Bool} {v : V} (r : Rep K rho H (.bl i) v) : v = .bl i := by simpa only [Rep] using r
theorem rep_non {K : PySem.W.Frag} {rho : List Addr} {H : Hp} {v : V} (r : Rep K rho H .non v) : v = .non := by simpa only [Rep] using r
theorem rep_cst {K : PySem.W.Frag} {rho : List Addr} {H : Hp} {u v : V} (r : Rep K rho H (.cst u) v) : v = u := by simpa only [Rep] using r
theorem good_int {σ : St} {rho : List Addr} {H : Hp} {M : Store} {Q : VK} {i : Int} (S : StR G.K G.T rho H M) (P : Post G W σ rho H (GoodD G.K Q) (.ok (.int i) M)) : Q (.int i) H := P.now S _ (by simp [Rep])
theorem good_bl {σ : St} {rho : List Addr} {H : Hp} {M : Store} {Q : VK} {i : Bool} (S : StR G.K G.T rho H M) (P : Post G W σ rho H (GoodD G.K Q) (.ok (.bl i) M)) : Q (.bl i) H := P.now S _ (by simp [Rep])
theorem good_str {σ : St} {rho : List Addr} {H : Hp} {M : Store} {Q : VK} {i : Str} (S : StR G.K G.T rho H M) (P : Post G W σ rho H (GoodD G.K Q) (.ok (.str i) M)) : Q (.str i) H := P.now S _ (by simp [Rep])
theorem good_non {σ : St} {rho : List Addr} {H : Hp} {M : Store} {Q : VK} (S : StR G.K G.T rho H M) (P : Post G W σ rho H (GoodD G.K Q) (.ok .non M)) : Q .non H := P.now S _ (by simp [Rep])

def rAddV (K : PySem.W.Frag) : R2 := fun x y H Q => (rI0 (fun i j => .int (i + j)) x y H Q ∨ (∃ i j, x = .str i ∧ y = .str j ∧ i.length + j.length ≤ sizeLine ∧ Q (.str (i ++ j)) H)) ∨ (rCatA K x y H Q ∨ rCat x y H Q)
theorem op_addV : OpR X (binaryOp .Add) (rAddV X.K) := (op_add.or op_add_str).or (op_catA.or op_cat)
theorem ds_add (hK : X.K = G.K) : OpS G dAdd (rAddV X.K) := by
  rw [hK]
  intro W σ rho H M x y v w Q S rx ry P
  cases x <;> cases y <;> try exact P.elim
  · cases rep_int rx; cases rep_int ry
    exact .inl (.inl ⟨_, _, rfl, rfl, good_int S P⟩)
  · cases rep_str rx; cases rep_str ry
    simp only [dAdd] at P
    split at P
    · rename_i h; exact .inl (.inr ⟨_, _, rfl, rfl, by rw [← cap_eq]; exact h, good_str S P⟩)
    · exact P.elim
  · obtain ⟨a, vs, rfl, h1, h2⟩ := rep_tup rx
    obtain ⟨b, ws, rfl, h3, h4⟩ := rep_tup ry
    simp only [dAdd] at P
    split at P
    · rename_i h
      refine .inr (.inl ⟨a, b, vs, ws, rfl, rfl, SqT.of h1, SqT.of h3, by rw [h2.length, h4.length, ← cap_eq]; exact h, fun e => ?_, fun _ e => ?_, fun _ _ => ?_⟩)
      · subst e
        have := h2.length; simp at this
        have e2 := List.eq_nil_of_length_eq_zero this.symm
        subst e2
        refine P.now S _ ?_
        simp only [Rep]; exact ⟨b, ws, rfl, h3, h4⟩
      · subst e
        have := h4.length; simp at this
        have e2 := List.eq_nil_of_length_eq_zero this.symm
        subst e2
        refine P.now S _ ?_
        simp only [Rep, List.append_nil]; exact ⟨a, vs, rfl, h1, h2⟩
      · exact new_tup S (h2.append h4) P
    · exact P.elim
  · obtain ⟨a, rfl, ha⟩ := rep_ref rx
    obtain ⟨b, rfl, hb⟩ := rep_ref ry
    simp only [dAdd] at P
    split at P
    · rename_i as bs e1 e2
      split at P
      · rename_i h
        obtain ⟨vs, g1, g2⟩ := S.at_ _ a _ ha e1
        obtain ⟨ws, g3, g4⟩ := S.at_ _ b _ hb e2
        exact .inr (.inr ⟨a, b, vs, ws, rfl, rfl, g1, g3, by rw [g2.length, g4.length, ← cap_eq]; exact h, new_lst S (g2.append g4) P⟩)
      · exact P.elim
    · exact P.elim
def rSubV : R2 := rI0 fun i j => .int (i - j)
theorem ds_sub : OpS G dSub rSubV := by
  intro W σ rho H M x y v w Q S rx ry P
  cases x <;> cases y <;> try exact P.elim
  cases rep_int rx; cases rep_int ry
  exact ⟨_, _, rfl, rfl, good_int S P⟩
def rMulV (K : PySem.W.Frag) : R2 := fun x y H Q => (rI CMul (fun i j => .int (i * j)) x y H Q ∨ rI CMulW (fun i j => .int (i * j)) x y H Q) ∨ (rRep x y H Q ∨ rRepT K x y H Q)
theorem op_mulV : OpR X (binaryOp .Mult) (rMulV X.K) := (op_mul.or op_mulW).or (op_rep.or op_repT)
theorem ds_mul (hK : X.K = G.K) : OpS G dMul (rMulV X.K) := by
  rw [hK]
  intro W σ rho H M x y v w Q S rx ry P
  cases x <;> cases y <;> try exact P.elim
  · cases rep_int rx; cases rep_int ry
    simp only [dMul] at P
    split at P
    · rename_i h
      simp only [mulOk, Bool.or_eq_true, decide_eq_true_eq] at h
      rcases h with (h | h) | h
      · exact .inl (.inl ⟨_, _, rfl, rfl, .inl h, good_int S P⟩)
      · exact .inl (.inl ⟨_, _, rfl, rfl, .inr h, good_int S P⟩)
      · exact .inl (.inr ⟨_, _, rfl, rfl, h, good_int S P⟩)
    · exact P.elim
  · cases rep_int ry
    obtain ⟨a, vs, rfl, h1, h2⟩ := rep_tup rx
    simp only [dMul] at P
    split at P
    · rename_i h
      refine .inr (.inr ⟨a, _, vs, rfl, rfl, SqT.of h1, fun e => h.1 ?_, h.2.1, h.2.2.1, by rw [h2.length]; exact h.2.2.2, new_tup S (h2.rep _) P⟩)
      subst e
      have := h2.length; simp at this
      exact List.eq_nil_of_length_eq_zero this.symm
    · exact P.elim
  · cases rep_int ry
    obtain ⟨a, rfl, ha⟩ := rep_ref rx
    simp only [dMul] at P
    split at P
    · rename_i as e1
      split at P
      · rename_i h
        obtain ⟨vs, g1, g2⟩ := S.at_ _ a _ ha e1
        exact .inr (.inl ⟨a, _, vs, rfl, rfl, g1, h.1, h.2.1, by rw [g2.length, ← cap_eq]; exact h.2.2, new_lst S (g2.rep _) P⟩)
      · exact P.elim
    · exact P.elim
theorem ds_fdiv : OpS G dFdiv (rI CDivW fun i j => .int (i / j)) := by
  intro W σ rho H M x y v w Q S rx ry P
  cases x <;> cases y <;> try exact P.elim
  cases rep_int rx; cases rep_int ry
  simp only [dFdiv] at P
  split at P
  · rename_i h; exact ⟨_, _, rfl, rfl, h, good_int S P⟩
  · exact P.elim
theorem ds_mod : OpS G dMod (rI (fun _ j => 0 < j) fun i j => .int (i % j)) := by
  intro W σ rho H M x y v w Q S rx ry P
  cases x <;> cases y <;> try exact P.elim
  cases rep_int rx; cases rep_int ry
  simp only [dMod] at P
  split at P
  · rename_i h; exact ⟨_, _, rfl, rfl, h, good_int S P⟩
  · exact P.elim
theorem ds_pow : OpS G dPow (rI CPow fun i j => .int (i ^ j.toNat)) := by
  intro W σ rho H M x y v w Q S rx ry P
  cases x <;> cases y <;> try exact P.elim
  cases rep_int rx; cases rep_int ry
  simp only [dPow] at P
  split at P
  · rename_i h; exact ⟨_, _, rfl, rfl, h, good_int S P⟩
  · exact P.elim
theorem ds_neg : UnS G dNeg (rU fun i => .int (-i)) := by
  intro W σ rho H M x v Q S rx P
  cases x <;> try exact P.elim
  cases rep_int rx
  exact ⟨_, rfl, good_int S P⟩
end

/-! ### comparisons -/
def dCmp (p : Int → Int → Bool) (x y : D) (M : Store) : Out D := match x, y with
  | .int i, .int j => .ok (.bl (p i j)) M
  | _, _ => .bad
def dLt : D → D → Store → Out D := dCmp fun i j => decide (i < j)
def dLe : D → D → Store → Out D := dCmp fun i j => decide (i ≤ j)
def dGt : D → D → Store → Out D := dCmp fun i j => decide (j < i)
def dGe : D → D → Store → Out D := dCmp fun i j => decide (j ≤ i)
def dEq (neg : Bool) (x y : D) (M : Store) : Out D := match toPy M 6 x, toPy M 6 y with
  | some a, some b => if a.canLay0 = true ∧ b.canLay0 = true ∧ min a.depth b.depth ≤ 150 then .ok (.bl (if neg then !PyData.eqv a b else PyData.eqv a b)) M else .bad
  | _, _ => .bad
/-- is None, is a bool -/
def dIs (neg : Bool) (x y : D) (M : Store) : Out D := match x, y with
  | .non, .non => .ok (.bl (!neg)) M
  | .bl _, .non | .int _, .non | .str _, .non | .tup _, .non | .ref _, .non => .ok (.bl neg) M
  | .bl a, .bl b => .ok (.bl (if neg then !decide (a = b) else decide (a = b))) M
  | _, _ => .bad
/-- a dict's key, the keys being ints and texts -/
def keyK : D → Option Key
  | .int i => some (Sum.inl i)
  | .str x => some (Sum.inr x)
  | _ => none
def keysT : List D → Option (List Key)
  | [] => some []
  | d :: ds => match keyK d, keysT ds with
    | some k, some ks => some (k :: ks)
    | _, _ => none
/-- .. being tuples of such -/
def keyT : D → Option (List Key)
  | .tup ds => keysT ds
  | _ => none
def findK {κ : Type} [DecidableEq κ] (kvs : List (κ × D)) (k : κ) : Option D := match kvs with
  | [] => none
  | (k', d) :: r => if k' = k then some d else findK r k
def dIn (neg : Bool) (x y : D) (M : Store) : Out D :=
  let out (b : Bool) : Out D := .ok (.bl (if neg then !b else b)) M
  match y with
  | .str t => (match x with
    | .str z => out (!(Builtin.Str.occurrences t z 0 t.length 1).isEmpty)
    | _ => .bad)
  | .tup _ | .ktp _ => (match toPy M 6 x, toPy M 6 y with
    | some d, some (.tuple ds) => if d.canLay0 = true ∧ PyData.canLayAll0 ds = true ∧ min (PyData.depthAll ds) d.depth ≤ 150 then out (ds.any fun z => PyData.eqv z d) else .bad
    | _, _ => .bad)
  | .ref n => (match M[n]? with
    | some (.dicK kvs) => (match keyK x with
      | some k => out (findK kvs k).isSome
      | none => .bad)
    | some (.dicT kvs) => (match keyT x with
      | some k => out (findK kvs k).isSome
      | none => .bad)
    | _ => (match toPy M 6 x, toPy M 6 y with
      | some d, some (.list ds) => if d.canLay0 = true ∧ PyData.canLayAll0 ds = true ∧ min (PyData.depthAll ds) d.depth ≤ 150 then out (ds.any fun z => PyData.eqv z d) else .bad
      | _, _ => .bad))
  | _ => .bad

section
variable {G : Gd} {X : Cx} {W : WX}
theorem ds_cmp (p : Int → Int → Bool) : OpS G (dCmp p) (rI0 fun i j => .bl (p i j)) := by
  intro W σ rho H M x y v w Q S rx ry P
  cases x <;> cases y <;> try exact P.elim
  cases rep_int rx; cases rep_int ry
  exact ⟨_, _, rfl, rfl, good_bl S P⟩
def rEqM (K : PySem.W.Frag) (neg : Bool) : R2 := fun x y H Q => ∃ d e, Dp K H x d ∧ Dp K H y e ∧ d.canLay0 = true ∧ e.canLay0 = true ∧ min d.depth e.depth ≤ 150 ∧ Q (.bl (if neg then !PyData.eqv d e else PyData.eqv d e)) H
theorem op_eqM (hu : X.A.units + 160 < cLine) : OpR X (compareOp .Eq) (rEqM X.K false) := by
  intro pins s σ H x y v u Q I rx ry ⟨d, e, hd, he, sd, se, hm, q⟩
  obtain ⟨as, r1⟩ := Dp.reads I d x v hd rx
  obtain ⟨bs, r2⟩ := Dp.reads I e y u he ry
  exact SeqAt.compareEq_reads r1 r2 sd se (by omega) ⟨.bl _, H, I, rfl, q⟩
theorem op_neM (hu : X.A.units + 160 < cLine) : OpR X (compareOp .NotEq) (rEqM X.K true) := by
  intro pins s σ H x y v u Q I rx ry ⟨d, e, hd, he, sd, se, hm, q⟩
  obtain ⟨as, r1⟩ := Dp.reads I d x v hd rx
  obtain ⟨bs, r2⟩ := Dp.reads I e y u he ry
  exact SeqAt.compareNe_reads r1 r2 sd se (by omega) ⟨.bl _, H, I, rfl, q⟩
theorem ds_eq (hK : X.K = G.K) (neg : Bool) : OpS G (dEq neg) (rEqM X.K neg) := by
  rw [hK]
  intro W σ rho H M x y v w Q S rx ry P
  simp only [dEq] at P
  split at P
  · rename_i a b e1 e2
    split at P
    · rename_i h
      exact ⟨a, b, toPy_dp S 6 x a v e1 rx, toPy_dp S 6 y b w e2 ry, h.1, h.2.1, h.2.2, good_bl S P⟩
    · exact P.elim
  · exact P.elim
def rIsV (neg : Bool) : R2 := fun x y H Q => (y = .non ∧ Q (.bl (if neg then !decide (x = .non) else decide (x = .non))) H) ∨ (∃ a b : Bool, x = .bl a ∧ y = .bl b ∧ Q (.bl (if neg then !decide (a = b) else decide (a = b))) H)
theorem op_isV : OpR X (compareOp .Is) (rIsV false) := op_isN.or op_is_bl
theorem op_isnotV : OpR X (compareOp .IsNot) (rIsV true) := op_notN.or op_isnot_bl
theorem ds_is (neg : Bool) : OpS G (dIs neg) (rIsV neg) := by
  intro W σ rho H M x y v w Q S rx ry P
  cases y with
  | non =>
    cases rep_non ry
    cases x with
    | non => cases rep_non rx; refine .inl ⟨rfl, ?_⟩; have := good_bl S P; cases neg <;> simpa using this
    | bl b => cases rep_bl rx; refine .inl ⟨rfl, ?_⟩; have := good_bl S P; cases neg <;> simpa using this
    | int b => cases rep_int rx; refine .inl ⟨rfl, ?_⟩; have := good_bl S P; cases neg <;> simpa using this
    | str b => cases rep_str rx; refine .inl ⟨rfl, ?_⟩; have := good_bl S P; cases neg <;> simpa using this
    | tup b => obtain ⟨a, vs, rfl, _⟩ := rep_tup rx; refine .inl ⟨rfl, ?_⟩; have := good_bl S P; cases neg <;> simpa using this
    | ref b => obtain ⟨a, rfl, _⟩ := rep_ref rx; refine .inl ⟨rfl, ?_⟩; have := good_bl S P; cases neg <;> simpa using this
    | cst b => exact P.elim
    | ktp b => exact P.elim
  | bl b =>
    cases rep_bl ry
    cases x <;> try exact P.elim
    cases rep_bl rx
    exact .inr ⟨_, _, rfl, rfl, good_bl S P⟩
  | _ => cases x <;> exact P.elim

/-! keys -/
theorem keyK_rep {K : PySem.W.Frag} {rho : List Addr} {H : Hp} {d : D} {k : Key} {v : V} (h : keyK d = some k) (r : Rep K rho H d v) : v = kV k := by
  cases d with
  | int i => simp only [keyK, Option.some.injEq] at h; cases rep_int r; subst h; rfl
  | str i => simp only [keyK, Option.some.injEq] at h; cases rep_str r; subst h; rfl
  | _ => simp [keyK] at h
theorem keysT_rep {K : PySem.W.Frag} {rho : List Addr} {H : Hp} : ∀ {ds : List D} {ks : List Key} {vs : List V}, keysT ds = some ks → Reps K rho H ds vs → vs = ks.map kV
  | [], ks, vs, h, r => by simp only [keysT, Option.some.injEq] at h; simp only [Reps] at r; subst h r; rfl
  | d :: ds, ks, vs, h, r => by
    simp only [Reps] at r
    obtain ⟨v, ws, rfl, r1, r2⟩ := r
    simp only [keysT] at h
    split at h
    · rename_i k ks' h1 h2
      simp only [Option.some.injEq] at h
      subst h
      rw [keyK_rep h1 r1, keysT_rep h2 r2]; rfl
    · cases h
theorem findK_val {κ : Type} [DecidableEq κ] {K : PySem.W.Frag} {rho : List Addr} {H : Hp} : ∀ {kvs : List (κ × D)} {vs : List (κ × V)}, RepKV K rho H kvs vs → ∀ k, (findK kvs k = none ∧ valV vs k = none) ∨ ∃ d v, findK kvs k = some d ∧ valV vs k = some v ∧ Rep K rho H d v
  | [], vs, h, k => by
    have := h.1; simp at this
    cases vs with
    | nil => exact .inl ⟨rfl, rfl⟩
    | cons _ _ => simp at this
  | (k', d) :: r, vs, h, k => by
    obtain ⟨h1, h2⟩ := h
    cases vs with
    | nil => simp at h1
    | cons p vs =>
      obtain ⟨k2, v⟩ := p
      simp only [List.map_cons, List.cons.injEq] at h1
      simp only [List.map_cons, Reps] at h2
      obtain ⟨v', ws, e, r1, r2⟩ := h2
      cases e
      obtain ⟨e1, e2⟩ := h1
      subst e1
      by_cases hk : k' = k
      · subst hk
        right
        exact ⟨d, v, by simp [findK], by simp [valV], r1⟩
      · rcases findK_val (kvs := r) (vs := vs) ⟨e2, r2⟩ k with ⟨a1, a2⟩ | ⟨d', w, a1, a2, a3⟩
        · left; exact ⟨by simp [findK, hk, a1], by unfold valV at a2 ⊢; rw [List.find?_cons_of_neg (by simp [hk])]; exact a2⟩
        · right; exact ⟨d', w, by simp [findK, hk, a1], by unfold valV at a2 ⊢; rw [List.find?_cons_of_neg (by simp [hk])]; exact a2, a3⟩
theorem findK_isSome {κ : Type} [DecidableEq κ] {K : PySem.W.Frag} {rho : List Addr} {H : Hp} {kvs : List (κ × D)} {vs : List (κ × V)} (h : RepKV K rho H kvs vs) (k : κ) : (valV vs k).isSome = (findK kvs k).isSome := by
  rcases findK_val h k with ⟨a1, a2⟩ | ⟨d, v, a1, a2, _⟩ <;> rw [a1, a2] <;> rfl
end
end Ev

/-! Ev, part D: in, subscripts, slices, stores, displays. -/
namespace Ev
open PySem L2

section
variable {G : Gd} {X : Cx} {W : WX}
/-! ### in -/
def rInM (K : PySem.W.Frag) (neg : Bool) : R2 := fun x y H Q =>
  ((∃ i j, x = .str i ∧ y = .str j ∧ Q (.bl (if neg then !(!(Builtin.Str.occurrences j i 0 j.length 1).isEmpty) else (!(Builtin.Str.occurrences j i 0 j.length 1).isEmpty))) H) ∨
  (∃ d ds, Dp K H x d ∧ Dp K H y (.list ds) ∧ d.canLay0 = true ∧ PyData.canLayAll0 ds = true ∧ min (PyData.depthAll ds) d.depth ≤ 150 ∧ Q (.bl (if neg then !(ds.any fun z => PyData.eqv z d) else ds.any fun z => PyData.eqv z d)) H)) ∨
  ((∃ d ds, Dp K H x d ∧ Dp K H y (.tuple ds) ∧ d.canLay0 = true ∧ PyData.canLayAll0 ds = true ∧ min (PyData.depthAll ds) d.depth ≤ 150 ∧ Q (.bl (if neg then !(ds.any fun z => PyData.eqv z d) else ds.any fun z => PyData.eqv z d)) H) ∨
  (∃ a r, y = .ref a ∧ DGet H a x r ∧ Q (.bl (if neg then !r.isSome else r.isSome)) H))
theorem op_inM (hu : X.A.units + 160 < cLine) : OpR X (compareOp .In) (rInM X.K false) := by
  refine (op_in_str.or ?_).or (OpR.or ?_ ?_)
  · intro pins s σ H x y v u Q I rx ry ⟨d, ds, hd, he, sd, se, hm, q⟩
    obtain ⟨as, r1⟩ := Dp.reads I d x v hd rx
    obtain ⟨bs, r2⟩ := Dp.reads I (.list ds) y u he ry
    exact SeqAt.in_list_reads r2 r1 se sd (by omega) ⟨.bl _, H, I, rfl, q⟩
  · intro pins s σ H x y v u Q I rx ry ⟨d, ds, hd, he, sd, se, hm, q⟩
    obtain ⟨as, r1⟩ := Dp.reads I d x v hd rx
    obtain ⟨bs, r2⟩ := Dp.reads I (.tuple ds) y u he ry
    exact SeqAt.in_tuple_reads r2 r1 se sd (by omega) ⟨.bl _, H, I, rfl, q⟩
  · intro pins s σ H x y v u Q I rx ry ⟨a, r, hy, g, q⟩
    subst hy
    obtain rfl : u = Value.ref a := ry
    exact d_in (by omega) I g rx fun s3 I3 => ⟨.bl _, H, I3, rfl, q⟩
theorem op_notInM (hu : X.A.units + 160 < cLine) : OpR X (compareOp .NotIn) (rInM X.K true) := by
  refine (op_notin_str.or ?_).or (OpR.or ?_ ?_)
  · intro pins s σ H x y v u Q I rx ry ⟨d, ds, hd, he, sd, se, hm, q⟩
    obtain ⟨as, r1⟩ := Dp.reads I d x v hd rx
    obtain ⟨bs, r2⟩ := Dp.reads I (.list ds) y u he ry
    exact SeqAt.notIn_list_reads r2 r1 se sd (by omega) ⟨.bl _, H, I, rfl, q⟩
  · intro pins s σ H x y v u Q I rx ry ⟨d, ds, hd, he, sd, se, hm, q⟩
    obtain ⟨as, r1⟩ := Dp.reads I d x v hd rx
    obtain ⟨bs, r2⟩ := Dp.reads I (.tuple ds) y u he ry
    exact SeqAt.notIn_tuple_reads r2 r1 se sd (by omega) ⟨.bl _, H, I, rfl, q⟩
  · intro pins s σ H x y v u Q I rx ry ⟨a, r, hy, g, q⟩
    subst hy
    obtain rfl : u = Value.ref a := ry
    exact d_notIn (by omega) I g rx fun s3 I3 => ⟨.bl _, H, I3, rfl, q⟩

/-- the key of a dict, and what stands there -/
def dictAt (M : Store) (n : Nat) (y : D) : Option (Option D) := match M[n]? with
  | some (.dicK kvs) => (match keyK y with
    | some k => some (findK kvs k)
    | none => none)
  | some (.dicT kvs) => (match keyT y with
    | some k => some (findK kvs k)
    | none => none)
  | _ => none
theorem keyT_rep {K : PySem.W.Frag} {rho : List Addr} {H : Hp} {d : D} {k : List Key} {v : V} (h : keyT d = some k) (r : Rep K rho H d v) : ∃ b, v = .ref b ∧ H b = some (.tup (k.map kV)) := by
  cases d <;> simp only [keyT] at h <;> try cases h
  obtain ⟨a, vs, rfl, h1, h2⟩ := rep_tup r
  rw [keysT_rep h h2] at h1
  exact ⟨a, rfl, h1⟩
theorem dictAt_rep {T : List Addr} {K : PySem.W.Frag} {rho : List Addr} {H : Hp} {M : Store} {n : Nat} {y : D} {o : Option D} {a : Addr} {w : V} (S : StR K T rho H M) (h : dictAt M n y = some o) (ha : rho[n]? = some a) (ry : Rep K rho H y w) :
    ∃ r, DGet H a w r ∧ ((o = none ∧ r = none) ∨ ∃ d v, o = some d ∧ r = some v ∧ Rep K rho H d v) := by
  unfold dictAt at h
  split at h
  · rename_i kvs hm
    obtain ⟨vs, g1, g2⟩ := S.at_ _ a _ ha hm
    split at h
    · rename_i k hk
      simp only [Option.some.injEq] at h
      have hw := keyK_rep hk ry
      subst hw
      refine ⟨_, DGet.k (k := k) g1, ?_⟩
      rcases findK_val g2 k with ⟨a1, a2⟩ | ⟨d, v, a1, a2, a3⟩
      · exact .inl ⟨h ▸ a1, a2⟩
      · exact .inr ⟨d, v, h ▸ a1, a2, a3⟩
    · cases h
  · rename_i kvs hm
    obtain ⟨vs, g1, g2⟩ := S.at_ _ a _ ha hm
    split at h
    · rename_i k hk
      simp only [Option.some.injEq] at h
      obtain ⟨b, rfl, hb⟩ := keyT_rep hk ry
      refine ⟨_, DGet.t (k := k) g1 hb, ?_⟩
      rcases findK_val g2 k with ⟨a1, a2⟩ | ⟨d, v, a1, a2, a3⟩
      · exact .inl ⟨h ▸ a1, a2⟩
      · exact .inr ⟨d, v, h ▸ a1, a2, a3⟩
    · cases h
  · cases h
theorem ds_in (hK : X.K = G.K) (neg : Bool) : OpS G (dIn neg) (rInM X.K neg) := by
  rw [hK]
  intro W σ rho H M x y v w Q S rx ry P
  cases y with
  | str t =>
    cases rep_str ry
    cases x <;> simp only [dIn] at P <;> try exact P.elim
    cases rep_str rx
    exact .inl (.inl ⟨_, _, rfl, rfl, good_bl S P⟩)
  | tup ds =>
    simp only [dIn] at P
    split at P
    · rename_i d es e1 e2
      split at P
      · rename_i h
        exact .inr (.inl ⟨d, es, toPy_dp S 6 x d v e1 rx, toPy_dp S 6 _ _ w e2 ry, h.1, h.2.1, h.2.2, good_bl S P⟩)
      · exact P.elim
    · exact P.elim
  | ktp ds =>
    simp only [dIn] at P
    split at P
    · rename_i d es e1 e2
      split at P
      · rename_i h
        exact .inr (.inl ⟨d, es, toPy_dp S 6 x d v e1 rx, toPy_dp S 6 _ _ w e2 ry, h.1, h.2.1, h.2.2, good_bl S P⟩)
      · exact P.elim
    · exact P.elim
  | ref n =>
    have key : ∀ (o : Option D), dictAt M n x = some o → Post G W σ rho H (GoodD G.K Q) (.ok (.bl (if neg then !o.isSome else o.isSome)) M) → rInM G.K neg v w H Q := fun o ho P => by
      obtain ⟨a, rfl, ha⟩ := rep_ref ry
      obtain ⟨r, g, hr⟩ := dictAt_rep S ho ha rx
      refine .inr (.inr ⟨a, r, rfl, g, ?_⟩)
      have e : r.isSome = o.isSome := by rcases hr with ⟨rfl, rfl⟩ | ⟨d, v, rfl, rfl, _⟩ <;> rfl
      rw [e]; exact good_bl S P
    simp only [dIn] at P
    split at P
    · rename_i kvs hm
      split at P
      · rename_i k hk
        exact key (findK kvs k) (by simp [dictAt, hm, hk]) P
      · exact P.elim
    · rename_i kvs hm
      split at P
      · rename_i k hk
        exact key (findK kvs k) (by simp [dictAt, hm, hk]) P
      · exact P.elim
    · split at P
      · rename_i d es e1 e2
        split at P
        · rename_i h
          exact .inl (.inr ⟨d, es, toPy_dp S 6 x d v e1 rx, toPy_dp S 6 _ _ w e2 ry, h.1, h.2.1, h.2.2, good_bl S P⟩)
        · exact P.elim
      · exact P.elim
  | _ => exact P.elim

/-! ### subscripts -/
def dIx (x y : D) (M : Store) : Out D := match x with
  | .tup ds => (match y with
    | .int i => (match atI ds i with
      | some d => .ok d M
      | none => .bad)
    | _ => .bad)
  | .str z => (match y with
    | .int i => (match atI z.cps.toList i with
      | some c => if z.length ≤ cap then .ok (.str ⟨#[c]⟩) M else .bad
      | none => .bad)
    | _ => .bad)
  | .ref n => (match M[n]? with
    | some (.lst ds) => (match y with
      | .int i => (match atI ds i with
        | some d => .ok d M
        | none => .bad)
      | _ => .bad)
    | some (.frz ds) => (match y with
      | .int i => (match atI ds i with
        | some d => .ok d M
        | none => .bad)
      | _ => .bad)
    | _ => (match dictAt M n y with
      | some (some d) => .ok d M
      | _ => .bad))
  | _ => .bad
theorem reps_atI {K : PySem.W.Frag} {rho : List Addr} {H : Hp} {ds : List D} {vs : List V} {i : Int} {d : D} (r : Reps K rho H ds vs) (h : atI ds i = some d) : ∃ v, atI vs i = some v ∧ Rep K rho H d v := by
  unfold atI at h ⊢
  rw [r.length]
  cases e : ixN ds.length i with
  | none => rw [e] at h; simp at h
  | some j =>
    rw [e] at h
    exact r.get (by simpa using h)
def rGetD : R2 := fun x y H Q => ∃ a v, x = .ref a ∧ DGet H a y (some v) ∧ Q v H
theorem ix_dict (hu : X.A.units + 1 < cLine) : IxR X rGetD := by
  intro value slice pins s σ H x y v u Q I rx ry ⟨a, r, hx, g, q⟩ hs
  subst hx
  obtain rfl : v = Value.ref a := rx
  exact PyProof.Rows.tail_any (dict_typeIs I g) PySem.F.slot_dict_getitem.lookup (d_getItem hu I g ry fun w' s3 I3 rw' => ⟨r, H, I3, rw', q⟩) hs
def rIxM (K : PySem.W.Frag) : R2 := fun x y H Q => rIx K x y H Q ∨ rGetD x y H Q
theorem ix_all (hu : X.A.units + 1 < cLine) : IxR X (rIxM X.K) := ix_seq.or (ix_dict hu)
theorem ds_ix (hK : X.K = G.K) : OpS G dIx (rIxM X.K) := by
  rw [hK]
  intro W σ rho H M x y v w Q S rx ry P
  cases x <;> simp only [dIx] at P <;> try exact P.elim
  · rename_i z
    cases rep_str rx
    split at P
    · cases rep_int ry
      split at P
      · rename_i c hc
        split at P
        · rename_i hz
          exact .inl (.inr (.inr ⟨_, _, _, rfl, rfl, by rw [← cap_eq]; exact hz, hc, good_str S P⟩))
        · exact P.elim
      · exact P.elim
    · exact P.elim
  · obtain ⟨a, vs, rfl, h1, h2⟩ := rep_tup rx
    split at P
    · cases rep_int ry
      split at P
      · rename_i d hd
        obtain ⟨u, hu, ru⟩ := reps_atI h2 hd
        exact .inl (.inr (.inl ⟨a, vs, _, u, rfl, rfl, SqT.of h1, hu, P.now S u ru⟩))
      · exact P.elim
    · exact P.elim
  · obtain ⟨a, rfl, ha⟩ := rep_ref rx
    split at P
    · rename_i ds hm
      obtain ⟨vs, g1, g2⟩ := S.at_ _ a _ ha hm
      split at P
      · cases rep_int ry
        split at P
        · rename_i d hd
          obtain ⟨u, hu, ru⟩ := reps_atI g2 hd
          exact .inl (.inl ⟨a, vs, _, u, rfl, rfl, SqL.of g1, hu, P.now S u ru⟩)
        · exact P.elim
      · exact P.elim
    · rename_i ds hm
      obtain ⟨vs, g1, g2⟩ := S.at_ _ a _ ha hm
      split at P
      · cases rep_int ry
        split at P
        · rename_i d hd
          obtain ⟨u, hu, ru⟩ := reps_atI g2 hd
          exact .inl (.inl ⟨a, vs, _, u, rfl, rfl, g1.sq, hu, P.now S u ru⟩)
        · exact P.elim
      · exact P.elim
    · split at P
      · rename_i d hd
        obtain ⟨r, g, hr⟩ := dictAt_rep S hd ha ry
        rcases hr with ⟨h, _⟩ | ⟨d', u, h1, rfl, ru⟩
        · cases h
        · cases h1
          exact .inr ⟨a, u, rfl, g, P.now S u ru⟩
      · exact P.elim
theorem ev_ix {fa fb : EvE} {a b : Expr} {pos : Pos} (hK : X.K = G.K) (hu : X.A.units + 1 < cLine) (ha : PEv G X W fa a) (hb : PEv G X W fb b) (hs : PlainIx b := by intro _ _; rfl) : PEv G X W (eBin dIx fa fb) (.Subscript a b pos) :=
  PE.weak (pe_ix (ix_all hu) ha hb hs) fun σ H Q ⟨eta, M, rho, E, S, P⟩ => tE2 E S P fun r2 H2 M2 x y v w _ S2 rx ry P2 => ds_ix hK W σ r2 H2 M2 x y v w Q S2 rx ry P2

/-! ### slices -/
def cutD (xs : List D) (lo hi : Option Int) : List D := (xs.drop (HT.sIx xs.length 0 lo)).take (HT.sIx xs.length xs.length hi - HT.sIx xs.length 0 lo)
theorem Reps.cut {K : PySem.W.Frag} {rho : List Addr} {H : Hp} {ds : List D} {vs : List V} (r : Reps K rho H ds vs) (lo hi : Option Int) : Reps K rho H (cutD ds lo hi) (cutV vs lo hi) := by
  unfold cutD cutV
  rw [r.length]
  exact (r.drop _).take _
abbrev EvO := Env → Store → Out (Option Int)
def oNone : EvO := fun _ M => .ok none M
def oSome (f : EvE) : EvO := fun eta M => (f eta M).bind fun d M1 => match d with
  | .int i => .ok (some i) M1
  | _ => .bad
def dCut (x : D) (lo hi : Option Int) (M : Store) : Out D := match x with
  | .tup ds => .ok (.tup (cutD ds lo hi)) M
  | .ref n => (match M[n]? with
    | some (.lst ds) => .ok (.ref M.length) (M ++ [.lst (cutD ds lo hi)])
    | some (.frz ds) => .ok (.ref M.length) (M ++ [.lst (cutD ds lo hi)])
    | _ => .bad)
  | _ => .bad
def eCut (f : EvE) (lo hi : EvO) : EvE := fun eta M => (f eta M).bind fun x M1 => (lo eta M1).bind fun l M2 => (hi eta M2).bind fun h M3 => dCut x l h M3
def tO (G : Gd) (W : WX) (f : EvO) : TO := fun σ H Q => ∃ eta M rho, EnvR G.K rho H eta σ ∧ StR G.K G.T rho H M ∧ Post G W σ rho H (fun _ H' o _ => Q o H') (f eta M)
def POv (G : Gd) (X : Cx) (W : WX) (f : EvO) (e : Option Expr) : Prop := PO X e (tO G W f)
theorem PO.weak {e : Option Expr} {t t' : TO} (h : PO X e t) (k : ∀ σ H Q, t' σ H Q → t σ H Q) : PO X e t' := ⟨fun pins s σ H Q I q => h.run pins s σ H Q I (k σ H Q q)⟩
theorem ov_none : POv G X W oNone none := PO.weak po_none fun σ H Q ⟨eta, M, rho, E, S, P⟩ => P.now S
theorem ov_some {f : EvE} {e : Expr} (h : PEv G X W f e) : POv G X W (oSome f) (some e) :=
  PO.weak (po_some h) fun σ H Q ⟨eta, M, rho, E, S, P⟩ => ⟨eta, M, rho, E, S, P.bind.imp fun r1 H1 d M1 e1 S1 P1 v rv => by
    cases d <;> try exact P1.elim
    cases rep_int rv
    exact ⟨_, rfl, P1.now S1⟩⟩
theorem whole_cut (xs : List D) (lo hi : Option Int) (h : HT.sIx xs.length 0 lo = 0 ∧ HT.sIx xs.length xs.length hi = xs.length) : cutD xs lo hi = xs := by
  unfold cutD; rw [h.1, h.2]; simp
theorem ev_cut {f : EvE} {l h : EvO} {e : Expr} {lo hi : Option Expr} {p2 pos : Pos} (hK : X.K = G.K) (he : PEv G X W f e) (hl : POv G X W l lo) (hh : POv G X W h hi) : PEv G X W (eCut f l h) (.Subscript e (.Slice lo hi none p2) pos) := by
  refine PE.weak (pe_slice (sl_list.or sl_tupA) he hl hh) fun σ H Q ⟨eta, M, rho, E, S, P⟩ => ?_
  refine ⟨eta, M, rho, E, S, P.bind.imp fun r1 H1 x M1 e1 S1 P1 v rv => ⟨eta, M1, r1, E.mono e1, S1, P1.bind.imp fun r2 H2 l M2 e2 S2 P2 => ⟨eta, M2, r2, (E.mono e1).mono e2, S2, P2.bind.imp fun r3 H3 h M3 e3 S3 P3 => ?_⟩⟩⟩
  have rv3 := Rep.mono e3 _ _ (Rep.mono e2 _ _ rv)
  rw [hK]
  cases x <;> simp only [dCut] at P3 <;> try exact P3.elim
  · rename_i ds
    obtain ⟨a, vs, rfl, h1, h2⟩ := rep_tup rv3
    refine .inr ⟨a, vs, rfl, SqT.of h1, fun hw => ?_, fun _ => new_tup S3 (h2.cut l h) P3⟩
    rw [h2.length] at hw
    rw [whole_cut ds l h hw] at P3
    refine P3.now S3 _ ?_
    simp only [Rep]; exact ⟨a, vs, rfl, h1, h2⟩
  · obtain ⟨a, rfl, ha⟩ := rep_ref rv3
    split at P3
    · rename_i ds hm
      obtain ⟨vs, g1, g2⟩ := S3.at_ _ a _ ha hm
      exact .inl ⟨a, vs, rfl, SqL.of g1, new_lst S3 (g2.cut l h) P3⟩
    · rename_i ds hm
      obtain ⟨vs, g1, g2⟩ := S3.at_ _ a _ ha hm
      exact .inl ⟨a, vs, rfl, g1.sq, new_lst S3 (g2.cut l h) P3⟩
    · exact P3.elim
/-- xs[::-1] of a list -/
def dRev (x : D) (M : Store) : Out D := match x with
  | .ref n => (match M[n]? with
    | some (.lst ds) => .ok (.ref M.length) (M ++ [.lst ds.reverse])
    | some (.frz ds) => .ok (.ref M.length) (M ++ [.lst ds.reverse])
    | _ => .bad)
  | _ => .bad
theorem ev_rev {f : EvE} {e : Expr} {k : Nat} {p1 p2 p3 pos : Pos} (hK : X.K = G.K) (he : PEv G X W f e) : PEv G X W (eUn dRev f) (.Subscript e (.Slice none none (some (.UnaryOp .USub (.Constant (.int 1) k p1) p2)) p3) pos) :=
  PE.weak (pe_revL he) fun σ H Q ⟨eta, M, rho, E, S, P⟩ => ⟨eta, M, rho, E, S, P.bind.imp fun r1 H1 x M1 e1 S1 P1 v rv => by
    rw [hK]
    cases x <;> simp only [dRev] at P1 <;> try exact P1.elim
    obtain ⟨a, rfl, ha⟩ := rep_ref rv
    split at P1
    · rename_i ds hm
      obtain ⟨vs, g1, g2⟩ := S1.at_ _ a _ ha hm
      exact ⟨a, vs, rfl, SqL.of g1, new_lst S1 g2.reverse P1⟩
    · rename_i ds hm
      obtain ⟨vs, g1, g2⟩ := S1.at_ _ a _ ha hm
      exact ⟨a, vs, rfl, g1.sq, new_lst S1 g2.reverse P1⟩
    · exact P1.elim⟩

/-! ### argument lists, displays -/
def lNil : EvL := fun _ M => .ok [] M
def lCons (f : EvE) (g : EvL) : EvL := fun eta M => (f eta M).bind fun d M1 => (g eta M1).bind fun ds M2 => .ok (d :: ds) M2
/-- *e, e a tuple or a list -/
def itemsD (d : D) (M : Store) : Option (List D) := match d with
  | .tup ds => some ds
  | .ref n => (match M[n]? with
    | some (.lst ds) => some ds
    | some (.frz ds) => some ds
    | _ => none)
  | _ => none
theorem lv_nil : PLv G X W lNil [] := PA.weak pa_nil fun σ H Q ⟨eta, M, rho, E, S, P⟩ => P.now S _ Reps.nil
theorem lv_cons {f : EvE} {g : EvL} {e : Expr} {es : List Expr} (he : PEv G X W f e) (hes : PLv G X W g es) (hs : starEach (e :: es) X.env = (false, eval e X.env) :: starEach es X.env := by rfl) : PLv G X W (lCons f g) (e :: es) :=
  PA.weak (pa_cons he hes hs) fun σ H Q ⟨eta, M, rho, E, S, P⟩ => ⟨eta, M, rho, E, S, P.bind.imp fun r1 H1 x M1 e1 S1 P1 v rv => ⟨eta, M1, r1, E.mono e1, S1, P1.bind.imp fun r2 H2 ds M2 e2 S2 P2 vs rvs =>
    P2.now S2 _ (Reps.cons (Rep.mono e2 _ _ rv) rvs)⟩⟩
def eTup (g : EvL) : EvE := fun eta M => (g eta M).bind fun ds M1 => if ds.length ≤ cap then .ok (.tup ds) M1 else .bad
def eLst (g : EvL) : EvE := fun eta M => (g eta M).bind fun ds M1 => if ds.length ≤ cap then .ok (.ref M1.length) (M1 ++ [.lst ds]) else .bad
theorem ev_tup {g : EvL} {es : List Expr} {x1} {pos : Pos} (h : PLv G X W g es) : PEv G X W (eTup g) (.Tuple es x1 pos) :=
  PE.weak (pe_tup h) fun σ H Q ⟨eta, M, rho, E, S, P⟩ => ⟨eta, M, rho, E, S, P.bind.imp fun r1 H1 ds M1 e1 S1 P1 vs rvs => by
    split at P1
    · rename_i h
      exact ⟨by rw [rvs.length, ← cap_eq]; exact h, new_tup S1 rvs P1⟩
    · exact P1.elim⟩
theorem ev_lst {g : EvL} {es : List Expr} {pos : Pos} (h : PLv G X W g es) : PEv G X W (eLst g) (.List es pos) :=
  PE.weak (pe_lst h) fun σ H Q ⟨eta, M, rho, E, S, P⟩ => ⟨eta, M, rho, E, S, P.bind.imp fun r1 H1 ds M1 e1 S1 P1 vs rvs => by
    split at P1
    · rename_i h
      exact ⟨by rw [rvs.length, ← cap_eq]; exact h, new_lst S1 rvs P1⟩
    · exact P1.elim⟩
end
end Ev

/-! Ev, part E: statements, targets, loops. -/
namespace Ev
open PySem L2

inductive OutS where
  | nx (eta : Env) (M : Store)
  | rt (d : D) (M : Store)
  | bk (eta : Env) (M : Store)
  | ct (eta : Env) (M : Store)
  | exc (x : Nat) (fs : List (Str × D)) (eta : Env) (M : Store)
  | bad
abbrev EvS := Env → Store → OutS

def OutS.bindE {α : Type} (o : Out α) (eta : Env) (k : α → Store → OutS) : OutS := match o with
  | .ok a M => k a M
  | .exc x fs M => .exc x fs eta M
  | .bad => .bad

def PostS (G : Gd) (W : WX) (rho : List Addr) (H : Hp) (E : Ends) : OutS → Prop
  | .nx eta M => ∀ rho' H' σ', Ext rho H rho' H' → StR G.K G.T rho' H' M → EnvR G.K rho' H' eta σ' → E.nx σ' H'
  | .rt d M => ∀ rho' H' v, Ext rho H rho' H' → StR G.K G.T rho' H' M → Rep G.K rho' H' d v → E.rt v H'
  | .bk eta M => ∀ rho' H' σ', Ext rho H rho' H' → StR G.K G.T rho' H' M → EnvR G.K rho' H' eta σ' → E.bk σ' H'
  | .ct eta M => ∀ rho' H' σ', Ext rho H rho' H' → StR G.K G.T rho' H' M → EnvR G.K rho' H' eta σ' → E.ct σ' H'
  | .exc x fs eta M => ∀ rho' H' σ' cls dd, Ext rho H rho' H' → StR G.K G.T rho' H' M → EnvR G.K rho' H' eta σ' → RepX G rho' H' x fs cls dd → W cls dd σ' H'
  | .bad => False

def tS (G : Gd) (W : WX) (f : EvS) : TS := fun E σ H => ∃ eta M rho, EnvR G.K rho H eta σ ∧ StR G.K G.T rho H M ∧ PostS G W rho H E (f eta M)
def PSv (G : Gd) (X : Cx) (W : WX) (f : EvS) (s : Stmt) : Prop := PS X s (tS G W f)
def PSsv (G : Gd) (X : Cx) (W : WX) (f : EvS) (s : List Stmt) : Prop := PSs X s (tS G W f)

section
variable {G : Gd} {X : Cx} {W : WX} {rho rho' : List Addr} {H H' : Hp} {E E' : Ends}
theorem PostS.ext {o : OutS} (h : PostS G W rho H E o) (e : Ext rho H rho' H') : PostS G W rho' H' E o := by
  cases o with
  | nx eta M => exact fun r1 H1 s1 e1 S1 V1 => h r1 H1 s1 (e.trans e1) S1 V1
  | rt d M => exact fun r1 H1 v e1 S1 R1 => h r1 H1 v (e.trans e1) S1 R1
  | bk eta M => exact fun r1 H1 s1 e1 S1 V1 => h r1 H1 s1 (e.trans e1) S1 V1
  | ct eta M => exact fun r1 H1 s1 e1 S1 V1 => h r1 H1 s1 (e.trans e1) S1 V1
  | exc x fs eta M => exact fun r1 H1 s1 c d e1 S1 V1 X1 => h r1 H1 s1 c d (e.trans e1) S1 V1 X1
  | bad => exact h
theorem PostS.bindE {α : Type} {σ : St} {eta : Env} {o : Out α} {k : α → Store → OutS} (V : EnvR G.K rho H eta σ) (h : PostS G W rho H E (OutS.bindE o eta k)) :
    Post G W σ rho H (fun rho' H' a M => PostS G W rho' H' E (k a M)) o := by
  cases o with
  | ok a M => exact fun r1 H1 e1 S1 => PostS.ext h e1
  | exc x fs M => exact fun r1 H1 c d e1 S1 X1 => h r1 H1 σ c d e1 S1 (V.mono e1) X1
  | bad => exact h

/-! ### blocks -/
def sSkip : EvS := fun eta M => .nx eta M
def sSeq (f g : EvS) : EvS := fun eta M => match f eta M with
  | .nx eta' M' => g eta' M'
  | o => o
theorem sv_nil : PSsv G X W sSkip [] := PSs.weak pss_nil fun E σ H ⟨eta, M, rho, V, S, P⟩ => P rho H σ (Ext.refl _ _) S V
theorem sv_cons {f g : EvS} {s : Stmt} {r : List Stmt} (h : PSv G X W f s) (h' : PSsv G X W g r) : PSsv G X W (sSeq f g) (s :: r) :=
  PSs.weak (pss_cons h h') fun E σ H ⟨eta, M, rho, V, S, P⟩ => ⟨eta, M, rho, V, S, by
    unfold sSeq at P
    cases e : f eta M with
    | nx eta' M' => rw [e] at P; exact fun r1 H1 s1 e1 S1 V1 => ⟨eta', M', r1, V1, S1, P.ext e1⟩
    | rt d M' => rw [e] at P; exact P
    | bk eta' M' => rw [e] at P; exact P
    | ct eta' M' => rw [e] at P; exact P
    | exc x fs eta' M' => rw [e] at P; exact P
    | bad => rw [e] at P; exact P⟩
theorem sv_one {f : EvS} {s : Stmt} (h : PSv G X W f s) : PSsv G X W f [s] := pss_one h
def sBreak : EvS := fun eta M => .bk eta M
def sCont : EvS := fun eta M => .ct eta M
theorem sv_pass {pos : Pos} : PSv G X W sSkip (.Pass pos) := PS.weak ps_pass fun E σ H ⟨eta, M, rho, V, S, P⟩ => P rho H σ (Ext.refl _ _) S V
theorem sv_break {pos : Pos} : PSv G X W sBreak (.Break pos) := PS.weak ps_break fun E σ H ⟨eta, M, rho, V, S, P⟩ => P rho H σ (Ext.refl _ _) S V
theorem sv_cont {pos : Pos} : PSv G X W sCont (.Continue pos) := PS.weak ps_continue fun E σ H ⟨eta, M, rho, V, S, P⟩ => P rho H σ (Ext.refl _ _) S V
/-- a statement that the run never comes to -/
def sBad : EvS := fun _ _ => .bad
theorem sv_never {s : Stmt} : PSv G X W sBad s := PS.weak ps_never fun E σ H ⟨eta, M, rho, V, S, P⟩ => P
def eBad : EvE := fun _ _ => .bad
theorem ev_never {e : Expr} : PEv G X W eBad e := ⟨fun pins s σ H Q I ⟨eta, M, rho, V, S, P⟩ => P.elim⟩

/-! ### small statements -/
def sExpr (f : EvE) : EvS := fun eta M => OutS.bindE (f eta M) eta fun _ M1 => .nx eta M1
def sRet (f : EvE) : EvS := fun eta M => OutS.bindE (f eta M) eta fun d M1 => .rt d M1
def sRetN : EvS := fun _ M => .rt .non M
def sIf (c : EvT) (f g : EvS) : EvS := fun eta M => OutS.bindE (c eta M) eta fun b M1 => if b = true then f eta M1 else g eta M1
theorem rep_some {K : PySem.W.Frag} {d : D} {v : V} (h : Rep K rho H d v) : Rep K rho H d v := h
theorem sv_expr {f : EvE} {e : Expr} {pos : Pos} (he : PEv G X W f e) (hs : swapsWith e none pos.line X.env = pure false := by rfl) : PSv G X W (sExpr f) (.Expr e pos) :=
  PS.weak (ps_expr he hs) fun E σ H ⟨eta, M, rho, V, S, P⟩ => ⟨eta, M, rho, V, S, (P.bindE V).imp fun r1 H1 d M1 e1 S1 P1 v rv => P1 r1 H1 σ (Ext.refl _ _) S1 (V.mono e1)⟩
theorem sv_ret {f : EvE} {e : Expr} {pos : Pos} (he : PEv G X W f e) : PSv G X W (sRet f) (.Return (some e) pos) :=
  PS.weak (ps_ret he) fun E σ H ⟨eta, M, rho, V, S, P⟩ => ⟨eta, M, rho, V, S, (P.bindE V).imp fun r1 H1 d M1 e1 S1 P1 v rv => P1 r1 H1 v (Ext.refl _ _) S1 rv⟩
theorem sv_retN {pos : Pos} : PSv G X W sRetN (.Return none pos) := PS.weak ps_retN fun E σ H ⟨eta, M, rho, V, S, P⟩ => P rho H .non (Ext.refl _ _) S (by simp [Rep])
theorem sv_if {c : EvT} {f g : EvS} {e : Expr} {a b : List Stmt} {pos : Pos} (hc : PTv G X W c e) (ha : PSsv G X W f a) (hb : PSsv G X W g b) : PSv G X W (sIf c f g) (.If e a b pos) :=
  PS.weak (ps_if hc ha hb) fun E σ H ⟨eta, M, rho, V, S, P⟩ => ⟨eta, M, rho, V, S, (P.bindE V).imp fun r1 H1 k M1 e1 S1 P1 => by
    cases k with
    | true => exact ⟨eta, M1, r1, V.mono e1, S1, P1⟩
    | false => exact ⟨eta, M1, r1, V.mono e1, S1, P1⟩⟩

/-! ### the slots -/
theorem EnvR.set {K : PySem.W.Frag} {eta : Env} {σ : St} {d : D} {v : V} (V : EnvR K rho H eta σ) (i : Nat) (r : Rep K rho H d v) : EnvR K rho H (eta.set i (some d)) (σ.set i (some v)) := by
  refine ⟨by simp [V.len], fun j e h => ?_⟩
  by_cases hj : j = i
  · subst hj
    have hl : j < eta.length := by
      have := (List.getElem?_eq_some_iff.mp h).1
      simpa using this
    rw [List.getElem?_set_self hl] at h
    simp only [Option.some.injEq] at h
    subst h
    exact ⟨v, by rw [List.getElem?_set_self (by rw [← V.len]; exact hl)], r⟩
  · rw [List.getElem?_set_ne (Ne.symm hj)] at h
    obtain ⟨w, h1, h2⟩ := V.at_ j e h
    exact ⟨w, by rw [List.getElem?_set_ne (Ne.symm hj)]; exact h1, h2⟩
theorem wipe_set (σ : St) (i : Nat) (x : Option V) : ∀ vs : List Nat, i ∈ vs → wipe (σ.set i x) vs = wipe σ vs
  | [], h => by simp at h
  | v :: vs, h => by
    have key : ∀ (vs : List Nat) (τ : St), wipe (τ.set i x) vs = (if i ∈ vs then wipe τ vs else (wipe τ vs).set i x) := by
      intro vs
      induction vs with
      | nil => intro τ; simp [wipe]
      | cons u us ih =>
        intro τ
        simp only [wipe, ih]
        by_cases hi : i ∈ us
        · simp [hi]
        · by_cases hu : i = u
          · subst hu; simp [hi]
          · have : ¬ i ∈ u :: us := by simp [hu, hi]
            rw [if_neg hi, if_neg this, List.set_comm _ _ hu]
    rw [key]; simp only [if_pos h]

/-! ### targets -/
inductive Tgt where
  | nm (i : Nat)
  | tp (ts : List Tgt)
mutual
def Tgt.slots : Tgt → List Nat
  | .nm i => [i]
  | .tp ts => slotsL ts
def slotsL : List Tgt → List Nat
  | [] => []
  | t :: ts => t.slots ++ slotsL ts
end
/-- the members of what is taken apart -/
def partsD (d : D) (M : Store) : Option (List D) := match d with
  | .tup ds => some ds
  | .ref n => (match M[n]? with
    | some (.lst ds) => some ds
    | _ => none)
  | _ => none
mutual
def asg (M : Store) : Tgt → D → Env → Option Env
  | .nm i, d, eta => some (eta.set i (some d))
  | .tp ts, d, eta => match partsD d M with
    | some ds => asgs M ts ds eta
    | none => none
def asgs (M : Store) : List Tgt → List D → Env → Option Env
  | [], [], eta => some eta
  | t :: ts, d :: ds, eta => match asg M t d eta with
    | some eta' => asgs M ts ds eta'
    | none => none
  | _, _, _ => none
end
def tG (G : Gd) (t : Tgt) : TG := fun v σ H Q => ∃ eta M rho d eta', EnvR G.K rho H eta σ ∧ StR G.K G.T rho H M ∧ Rep G.K rho H d v ∧ asg M t d eta = some eta' ∧
  ∀ σ', EnvR G.K rho H eta' σ' → (∀ vs, (∀ i ∈ t.slots, i ∈ vs) → wipe σ' vs = wipe σ vs) → Q σ' H
def tGs (G : Gd) (ts : List Tgt) : TGs := fun ws σ H Q => ∃ eta M rho ds eta', EnvR G.K rho H eta σ ∧ StR G.K G.T rho H M ∧ Reps G.K rho H ds ws ∧ asgs M ts ds eta = some eta' ∧
  ∀ σ', EnvR G.K rho H eta' σ' → (∀ vs, (∀ i ∈ slotsL ts, i ∈ vs) → wipe σ' vs = wipe σ vs) → Q σ' H
def PGv (G : Gd) (X : Cx) (t : Tgt) (e : Expr) : Prop := PG X e (tG G t)
def PGsv (G : Gd) (X : Cx) (ts : List Tgt) (es : List Expr) : Prop := PGs X es (tGs G ts)
theorem PG.weak {e : Expr} {t t' : TG} (h : PG X e t) (k : ∀ v σ H Q, t' v σ H Q → t v σ H Q) : PG X e t' := ⟨fun pins s σ H v u Q I r q => h.run pins s σ H v u Q I r (k v σ H Q q)⟩
theorem PGs.weak {e : List Expr} {t t' : TGs} (h : PGs X e t) (k : ∀ v σ H Q, t' v σ H Q → t v σ H Q) : PGs X e t' := ⟨fun pins s σ H v u Q I r q => h.run pins s σ H v u Q I r (k v σ H Q q)⟩
theorem PG.or {e : Expr} {t t' : TG} (h : PG X e t) (h' : PG X e t') : PG X e (fun v σ H Q => t v σ H Q ∨ t' v σ H Q) := ⟨fun pins s σ H v u Q I r q => q.elim (h.run pins s σ H v u Q I r) (h'.run pins s σ H v u Q I r)⟩
theorem gv_name {i : Nat} {x : Str} {pos : Pos} (hN : X.N.Nodup) (hi : X.N[i]? = some x := by rfl) (hx : Loc X.env.scope x := by first | exact Or.inl rfl | exact Or.inr rfl) (hf : X.fn x = true ∨ X.env.scope.names.lookup x = some .local := by first | exact .inl rfl | exact .inr rfl) : PGv G X (.nm i) (.Name x pos) :=
  PG.weak (pg_name hN hi hx hf) fun v σ H Q ⟨eta, M, rho, d, eta', V, S, r, h, k⟩ => by
    simp only [asg, Option.some.injEq] at h
    subst h
    exact k _ (V.set i r) fun vs hv => wipe_set σ i _ vs (hv i (by simp [Tgt.slots]))
theorem gsv_nil : PGsv G X [] [] := PGs.weak pgs_nil fun ws σ H Q ⟨eta, M, rho, ds, eta', V, S, r, h, k⟩ => by
  cases ds with
  | nil =>
    simp only [asgs, Option.some.injEq] at h
    subst h
    simp only [Reps] at r
    exact ⟨r, k σ V fun _ _ => rfl⟩
  | cons d ds => simp [asgs] at h
theorem gsv_cons {t : Tgt} {ts : List Tgt} {e : Expr} {es : List Expr} (h1 : PGv G X t e) (h2 : PGsv G X ts es) (hs : (assignEach (e :: es) X.env).map (·.2) = assign e X.env :: (assignEach es X.env).map (·.2) := by rfl) : PGsv G X (t :: ts) (e :: es) :=
  PGs.weak (pgs_cons h1 h2 hs) fun ws σ H Q ⟨eta, M, rho, ds, eta', V, S, r, h, k⟩ => by
    cases ds with
    | nil => simp [asgs] at h
    | cons d ds =>
      simp only [Reps] at r
      obtain ⟨v, us, rfl, r1, r2⟩ := r
      simp only [asgs] at h
      split at h
      · rename_i eta1 he
        exact ⟨v, us, rfl, eta, M, rho, d, eta1, V, S, r1, he, fun σ1 V1 w1 => ⟨eta1, M, rho, ds, eta', V1, S, r2, h, fun σ2 V2 w2 => k σ2 V2 fun vs hv => by
          rw [w2 vs fun i hi => hv i (by simp [slotsL, hi]), w1 vs fun i hi => hv i (by simp [slotsL, hi])]⟩⟩
      · cases h
theorem gv_tup {ts : List Tgt} {es : List Expr} {k : Nat} {pos : Pos} {n : Nat} (hK : X.K = G.K) (hc : X.calm = true) (h : PGsv G X ts es)
    (hl : ts.length = n) (hn : (assignEach es X.env).length = n := by rfl) (hst : (assignEach es X.env).findIdx? (·.1) = none := by rfl) : PGv G X (.tp ts) (.Tuple es k pos) :=
  PG.weak (PG.or (pg_tup hc h hn hst) (pg_lst hc h hn hst)) fun v σ H Q ⟨eta, M, rho, d, eta', V, S, r, ha, kk⟩ => by
    have hlen : ∀ (ts : List Tgt) (ds : List D) (eta eta' : Env), asgs M ts ds eta = some eta' → ds.length = ts.length := by
      intro ts
      induction ts with
      | nil => intro ds eta eta' h; cases ds with
        | nil => rfl
        | cons _ _ => simp [asgs] at h
      | cons t ts ih =>
        intro ds eta eta' h
        cases ds with
        | nil => simp [asgs] at h
        | cons d ds =>
          simp only [asgs] at h
          split at h
          · rw [List.length_cons, List.length_cons, ih _ _ _ h]
          · cases h
    simp only [asg] at ha
    split at ha
    · rename_i ds hp
      have e1 := hlen ts ds eta eta' ha
      unfold partsD at hp
      split at hp
      · simp only [Option.some.injEq] at hp
        subst hp
        obtain ⟨a, vs, rfl, h1, h2⟩ := rep_tup r
        exact .inl ⟨a, vs, rfl, by rw [hK]; exact SqT.of h1, by rw [h2.length, e1, hl], eta, M, rho, _, eta', V, S, h2, ha, fun σ' V' w' => kk σ' V' fun vs hv => w' vs fun i hi => hv i (by simpa only [Tgt.slots] using hi)⟩
      · rename_i n0
        obtain ⟨a, rfl, haa⟩ := rep_ref r
        split at hp
        · rename_i ds0 hm
          simp only [Option.some.injEq] at hp
          subst hp
          obtain ⟨vs, g1, g2⟩ := S.at_ _ a _ haa hm
          exact .inr ⟨a, vs, rfl, by rw [hK]; exact SqL.of g1, by rw [g2.length, e1, hl], eta, M, rho, _, eta', V, S, g2, ha, fun σ' V' w' => kk σ' V' fun vs hv => w' vs fun i hi => hv i (by simpa only [Tgt.slots] using hi)⟩
        · cases hp
      · cases hp
    · cases ha

/-! ### assignments -/
def sAsg (t : Tgt) (f : EvE) : EvS := fun eta M => OutS.bindE (f eta M) eta fun d M1 => match asg M1 t d eta with
  | some eta' => .nx eta' M1
  | none => .bad
theorem sv_asg {t : Tgt} {f : EvE} {tg e : Expr} {pos : Pos} (he : PEv G X W f e) (hg : PGv G X t tg) (hs : swapsWithSole [tg] e pos.line X.env = pure false := by rfl) (hw : swappedStores [tg] e X.env = pure none := by rfl)
    (h1 : (assignEach [tg] X.env).map (·.2) = [assign tg X.env] := by rfl) : PSv G X W (sAsg t f) (.Assign [tg] e pos) :=
  PS.weak (ps_asg he hg hs hw h1) fun E σ H ⟨eta, M, rho, V, S, P⟩ => ⟨eta, M, rho, V, S, (P.bindE V).imp fun r1 H1 d M1 e1 S1 P1 v rv => by
    split at P1
    · rename_i eta' ha
      exact ⟨eta, M1, r1, d, eta', V.mono e1, S1, rv, ha, fun σ' V' _ => P1 r1 H1 σ' (Ext.refl _ _) S1 V'⟩
    · exact P1.elim⟩
theorem sv_set {i : Nat} {x : Str} {f : EvE} {e : Expr} {pos pos' : Pos} (hN : X.N.Nodup) (he : PEv G X W f e) (hi : X.N[i]? = some x := by rfl) (hx : Loc X.env.scope x := by first | exact Or.inl rfl | exact Or.inr rfl)
    (hs : swapsWith e (some (.Name x pos')) pos.line X.env = pure false := by rfl) (hf : X.fn x = true ∨ X.env.scope.names.lookup x = some .local := by first | exact .inl rfl | exact .inr rfl) : PSv G X W (sAsg (.nm i) f) (.Assign [.Name x pos'] e pos) :=
  PS.weak (ps_set hN hi hx he hs hf) fun E σ H ⟨eta, M, rho, V, S, P⟩ => ⟨eta, M, rho, V, S, (P.bindE V).imp fun r1 H1 d M1 e1 S1 P1 v rv => P1 r1 H1 _ (Ext.refl _ _) S1 ((V.mono e1).set i rv)⟩
/-- a, b = x, y and a, b, c = x, y, z of plain local names -/
def setAll : List Nat → List D → Env → Option Env
  | [], [], eta => some eta
  | i :: is, d :: ds, eta => setAll is ds (eta.set i (some d))
  | _, _, _ => none
def sPar (is : List Nat) (g : EvL) : EvS := fun eta M => OutS.bindE (g eta M) eta fun ds M1 => match setAll is ds eta with
  | some eta' => .nx eta' M1
  | none => .bad
theorem sv_par {i j : Nat} {x y : Str} {a b : Expr} {g : EvL} {px py pt pos : Pos} {kt k2 : Nat} {pt2 : Pos} (hc : X.calm = true) (hN : X.N.Nodup) (ha : PLv G X W g [a, b]) (hi : X.N[i]? = some x := by rfl) (hj : X.N[j]? = some y := by rfl) (hij : i ≠ j := by decide)
    (hx : X.env.scope.names.lookup x = some .local := by rfl) (hy : X.env.scope.names.lookup y = some .local := by rfl)
    (hw : swappedStores [.Tuple [.Name x px, .Name y py] kt pt] (.Tuple [a, b] k2 pt2) X.env = pure (some [x, y]) := by rfl)
    (hs : swapsWithSole [.Tuple [.Name x px, .Name y py] kt pt] (.Tuple [a, b] k2 pt2) pos.line X.env = pure false := by rfl) :
    PSv G X W (sPar [i, j] g) (.Assign [.Tuple [.Name x px, .Name y py] kt pt] (.Tuple [a, b] k2 pt2) pos) :=
  PS.weak (ps_par hc hN hi hj hij hx hy ha hw hs) fun E σ H ⟨eta, M, rho, V, S, P⟩ => ⟨eta, M, rho, V, S, (P.bindE V).imp fun r1 H1 ds M1 e1 S1 P1 vs rvs => by
    split at P1
    · rename_i eta' hs
      match ds, hs with
      | [d, e], hs =>
        simp only [setAll, Option.some.injEq] at hs
        subst hs
        obtain ⟨v, w, rfl, r1', r2'⟩ := rvs.two
        exact ⟨v, w, rfl, P1 r1 H1 _ (Ext.refl _ _) S1 (((V.mono e1).set i r1').set j r2')⟩
    · exact P1.elim⟩
theorem sv_par3 {i j l : Nat} {x y z : Str} {a b c : Expr} {g : EvL} {px py pz pt pos : Pos} {kt k2 : Nat} {pt2 : Pos} (hc : X.calm = true) (hN : X.N.Nodup) (ha : PLv G X W g [a, b, c]) (hi : X.N[i]? = some x := by rfl) (hj : X.N[j]? = some y := by rfl) (hl : X.N[l]? = some z := by rfl)
    (hij : i ≠ j := by decide) (hil : i ≠ l := by decide) (hjl : j ≠ l := by decide)
    (hx : X.env.scope.names.lookup x = some .local := by rfl) (hy : X.env.scope.names.lookup y = some .local := by rfl) (hz : X.env.scope.names.lookup z = some .local := by rfl)
    (hw : swappedStores [.Tuple [.Name x px, .Name y py, .Name z pz] kt pt] (.Tuple [a, b, c] k2 pt2) X.env = pure (some [x, y, z]) := by rfl)
    (hs : swapsWithSole [.Tuple [.Name x px, .Name y py, .Name z pz] kt pt] (.Tuple [a, b, c] k2 pt2) pos.line X.env = pure false := by rfl) :
    PSv G X W (sPar [i, j, l] g) (.Assign [.Tuple [.Name x px, .Name y py, .Name z pz] kt pt] (.Tuple [a, b, c] k2 pt2) pos) :=
  PS.weak (ps_par3 hc hN hi hj hl hij hil hjl hx hy hz ha hw hs) fun E σ H ⟨eta, M, rho, V, S, P⟩ => ⟨eta, M, rho, V, S, (P.bindE V).imp fun r1 H1 ds M1 e1 S1 P1 vs rvs => by
    split at P1
    · rename_i eta' hs
      match ds, hs with
      | [d, e, f], hs =>
        simp only [setAll, Option.some.injEq] at hs
        subst hs
        obtain ⟨v, w, u, rfl, r1', r2', r3'⟩ := rvs.three
        exact ⟨v, w, u, rfl, P1 r1 H1 _ (Ext.refl _ _) S1 ((((V.mono e1).set i r1').set j r2').set l r3')⟩
    · exact P1.elim⟩
/-- name op= e -/
def sAug (i : Nat) (op : D → D → Store → Out D) (f : EvE) : EvS := fun eta M => match eta[i]? with
  | some (some x) => OutS.bindE ((f eta M).bind fun y M1 => op x y M1) eta fun z M2 => .nx (eta.set i (some z)) M2
  | _ => .bad
theorem sv_aug {i : Nat} {x : Str} {op : Operator} {g : D → D → Store → Out D} {r : R2} {f : EvE} {e : Expr} {pos pos' : Pos} (hN : X.N.Nodup) (ho : OpR X (inplaceOp op) r) (hs : OpS G g r) (he : PEv G X W f e) (hi : X.N[i]? = some x := by rfl)
    (hx : Loc X.env.scope x := by first | exact Or.inl rfl | exact Or.inr rfl) (hf : X.fn x = true ∨ X.env.scope.names.lookup x = some .local := by first | exact .inl rfl | exact .inr rfl) : PSv G X W (sAug i g f) (.AugAssign (.Name x pos') op e pos) :=
  PS.weak (ps_aug hN hi hx he (ti := r) ho hf) fun E σ H ⟨eta, M, rho, V, S, P⟩ => by
    unfold sAug at P
    split at P
    · rename_i d hd
      obtain ⟨v, hv, rv⟩ := V.at_ i d hd
      refine ⟨v, hv, eta, M, rho, V, S, (P.bindE V).bind.imp fun r1 H1 y M1 e1 S1 P1 w rw' => ?_⟩
      refine hs W σ r1 H1 M1 d y v w _ S1 (Rep.mono e1 _ _ rv) rw' (P1.imp fun r2 H2 z M2 e2 S2 P2 u ru => ?_)
      exact P2 r2 H2 _ (Ext.refl _ _) S2 (((V.mono e1).mono e2).set i ru)
    · exact P.elim

/-! ### while -/
def sWhile (c : EvT) (b : EvS) : Nat → EvS
  | 0 => fun _ _ => .bad
  | n + 1 => fun eta M => OutS.bindE (c eta M) eta fun k M1 => if k = true then (match b eta M1 with
      | .nx eta' M' => sWhile c b n eta' M'
      | .ct eta' M' => sWhile c b n eta' M'
      | .bk eta' M' => .nx eta' M'
      | o => o) else .nx eta M1
theorem sv_while {c : EvT} {b : EvS} {e : Expr} {body : List Stmt} {pos : Pos} {n : Nat} (hp : PassesOwn (model X.prog X.w) X.A X.env X.xe) (hc : PTv G X W c e) (hb : PSsv G X W b body) : PSv G X W (sWhile c b n) (.While e body [] pos) :=
  PS.weak (ps_while hp hc hb) fun E σ H h => ⟨fun m σ H => tS G W (sWhile c b m) E σ H, ⟨n, h⟩, fun m σ H ⟨eta, M, rho, V, S, P⟩ => by
    cases m with
    | zero => exact P.elim
    | succ m =>
      simp only [sWhile] at P
      refine ⟨eta, M, rho, V, S, (P.bindE V).imp fun r1 H1 k M1 e1 S1 P1 => ?_⟩
      cases k with
      | false => exact P1 r1 H1 σ (Ext.refl _ _) S1 (V.mono e1)
      | true =>
        refine ⟨fun σ' H' => tS G W (sWhile c b m) E σ' H', fun σ' H' h' => ⟨m, Nat.lt_succ_self m, h'⟩, eta, M1, r1, V.mono e1, S1, ?_⟩
        simp only [if_true] at P1
        cases e2 : b eta M1 with
        | nx eta' M' => rw [e2] at P1; exact fun r2 H2 s2 e3 S2 V2 => ⟨eta', M', r2, V2, S2, P1.ext e3⟩
        | ct eta' M' => rw [e2] at P1; exact fun r2 H2 s2 e3 S2 V2 => ⟨eta', M', r2, V2, S2, P1.ext e3⟩
        | bk eta' M' => rw [e2] at P1; exact P1
        | rt d M' => rw [e2] at P1; exact P1
        | exc x fs eta' M' => rw [e2] at P1; exact P1
        | bad => rw [e2] at P1; exact P1⟩

/-! ### what is walked -/
/-- at turn i: none: it cannot be said; some none: it stops -/
abbrev Iter := Nat → Store → Option (Option D)
abbrev EvIt := Env → Store → Out Iter
def IterR (G : Gd) (rho : List Addr) (H : Hp) (J : Iter) (J' : It) : Prop := ∀ rho1 H1 M1 i, Ext rho H rho1 H1 → StR G.K G.T rho1 H1 M1 → match J i M1 with
  | some (some d) => J'.go i H1 ∧ ∀ x H2, J'.yld i H1 x H2 → Ext rho1 H1 rho1 H2 ∧ StR G.K G.T rho1 H2 M1 ∧ Rep G.K rho1 H2 d x
  | some none => J'.stop i H1
  | none => True
def tI (G : Gd) (W : WX) (f : EvIt) : TI := fun σ H R => ∃ eta M rho, EnvR G.K rho H eta σ ∧ StR G.K G.T rho H M ∧ Post G W σ rho H (fun rho' H' J _ => ∀ J', IterR G rho' H' J J' → R J' H') (f eta M)
def PIv (G : Gd) (X : Cx) (W : WX) (f : EvIt) (tg e : Expr) : Prop := PI X tg e (tI G W f)
theorem PI.weak {tg e : Expr} {t t' : TI} (h : PI X tg e t) (k : ∀ σ H R, t' σ H R → t σ H R) : PI X tg e t' := ⟨fun pins s σ H R I q => h.run pins s σ H R I (k σ H R q)⟩
theorem PI.or {tg e : Expr} {t t' : TI} (h : PI X tg e t) (h' : PI X tg e t') : PI X tg e (fun σ H R => t σ H R ∨ t' σ H R) := ⟨fun pins s σ H R I q => q.elim (h.run pins s σ H R I) (h'.run pins s σ H R I)⟩

def forLoop (J : Iter) (t : Tgt) (b : EvS) : Nat → Nat → EvS
  | 0, _ => fun _ _ => .bad
  | m + 1, i => fun eta M => match J i M with
    | none => .bad
    | some none => .nx eta M
    | some (some d) => (match asg M t d eta with
      | none => .bad
      | some eta1 => (match b eta1 M with
        | .nx eta' M' => forLoop J t b m (i + 1) eta' M'
        | .ct eta' M' => forLoop J t b m (i + 1) eta' M'
        | .bk eta' M' => .nx eta' M'
        | o => o))
@[irreducible] def FUEL : Nat := 20000000
def sFor (it : EvIt) (t : Tgt) (b : EvS) : EvS := fun eta M => OutS.bindE (it eta M) eta fun J M1 => forLoop J t b FUEL 0 eta M1
theorem sv_for {it : EvIt} {t : Tgt} {b : EvS} {tg iter : Expr} {body : List Stmt} {pos : Pos} (hp : PassesOwn (model X.prog X.w) X.A X.env X.xe) (hc : X.calm = true) (hi : PIv G X W it tg iter) (hg : PGv G X t tg) (hb : PSsv G X W b body)
    (hs : ∀ x, foldedSetIterable iter X.env x = pure x := by intro _; rfl) : PSv G X W (sFor it t b) (.For tg iter body [] pos) :=
  PS.weak (ps_for hp hc hi hg hb hs) fun E σ H ⟨eta, M, rho, V, S, P⟩ => by
    refine ⟨eta, M, rho, V, S, (P.bindE V).imp fun r1 H1 J M1 e1 S1 P1 J' R => ?_⟩
    refine ⟨fun i m σ H => ∃ eta M rho, Ext r1 H1 rho H ∧ EnvR G.K rho H eta σ ∧ StR G.K G.T rho H M ∧ PostS G W rho H E (forLoop J t b m i eta M), ⟨FUEL, eta, M1, r1, Ext.refl _ _, V.mono e1, S1, P1⟩, ?_⟩
    rintro i m σ H ⟨eta, M, rho, e2, V, S, P⟩
    cases m with
    | zero => exact P.elim
    | succ m =>
      simp only [forLoop] at P
      have Rj := R rho H M i e2 S
      split at P
      · exact P.elim
      · rename_i hJ
        rw [hJ] at Rj
        exact .inl ⟨Rj, P rho H σ (Ext.refl _ _) S V⟩
      · rename_i d hJ
        rw [hJ] at Rj
        obtain ⟨go, yl⟩ := Rj
        refine .inr ⟨go, fun σ' H' => ∃ eta M rho, Ext r1 H1 rho H' ∧ EnvR G.K rho H' eta σ' ∧ StR G.K G.T rho H' M ∧ PostS G W rho H' E (forLoop J t b m (i + 1) eta M), fun σ' H' h' => ⟨m, Nat.lt_succ_self m, h'⟩, fun x H' hy => ?_⟩
        obtain ⟨e3, S3, rx⟩ := yl x H' hy
        split at P
        · exact P.elim
        · rename_i eta1 ha
          refine ⟨eta, M, rho, d, eta1, V.mono e3, S3, rx, ha, fun σ2 V2 _ => ⟨eta1, M, rho, V2, S3, ?_⟩⟩
          cases e4 : b eta1 M with
          | nx eta' M' => rw [e4] at P; exact fun r2 H2 s2 e5 S2 V2 => ⟨eta', M', r2, (e2.trans e3).trans e5, V2, S2, (P.ext e3).ext e5⟩
          | ct eta' M' => rw [e4] at P; exact fun r2 H2 s2 e5 S2 V2 => ⟨eta', M', r2, (e2.trans e3).trans e5, V2, S2, (P.ext e3).ext e5⟩
          | bk eta' M' => rw [e4] at P; exact P.ext e3
          | rt d M' => rw [e4] at P; exact P.ext e3
          | exc x fs eta' M' => rw [e4] at P; exact P.ext e3
          | bad => rw [e4] at P; exact P
end
end Ev

/-! Ev, part F: what is walked: lists, tuples, texts, ranges, enumerate; list comprehensions. -/
namespace PySem
open Sem (wp)
set_option maxHeartbeats 1000000 in
/-- enumerate(v) of one argument, v anything whose iterator is known -/
theorem ev_enum_made {val : Value} {ob : Obj} {Hv : Heap → Prop} (B : Begins val ob Hv) :
    Meets (Builtin.«enumerate.__new__» ⟨[.type "enumerate", val], []⟩) (fun _ R st => Hv st.heap ∧
      R (.ok (.ret (.ref (st.heap.push ob).objs.size))) { st with heap := (st.heap.push ob).push { cls := .type "enumerate", data := .fields #[.none, .bool false, .ref st.heap.objs.size, rawInt 0, .none, .none] } }) :=
  .of_wp fun pr wd Ar Re st hh => by
    obtain ⟨h0, g0, d0, k0, o0⟩ := st
    obtain ⟨hv, hh⟩ := hh
    have sub0 := sub_enumerate
    have it0 : ∀ {Ay : Around} {Ey : Value → Shared → Prop} {Qy : Value → Shared → Prop}, Qy (.ref h0.objs.size) ⟨h0.push ob, g0, d0, k0, o0⟩ → wpAny (model pr wd) Ay (pyIter val) Qy Ey ⟨h0, g0, d0, k0, o0⟩ :=
      fun z => B.iter pr wd _ _ ⟨h0, g0, d0, k0, o0⟩ _ hv z
    wp_walk using it0
    refine wpAny_stack_any fun stk => wpAny_pure ?_
    split
    · rename_i cc _ _ _ _ _
      cases (cc == Value.type "enumerate")
      · wp_walk using it0
        exact ⟨_, rfl, hh⟩
      · wp_walk using it0
        exact ⟨_, rfl, hh⟩
    · wp_walk using it0
      exact ⟨_, rfl, hh⟩
theorem ev_enum_call {pr : Program} {wd : World} {Ar : Around} {Ex : Value → Shared → Prop} {st : Shared} {val : Value} {ob : Obj} {Hv : Heap → Prop} {Qv : Value → Shared → Prop} (B : Begins val ob Hv) (hv : Hv st.heap)
    (k : ∀ h', IsEnum h' (st.heap.objs.size + 1) st.heap.objs.size 0 .none → h'.get? st.heap.objs.size = some ob → (∀ b o, st.heap.get? b = some o → h'.get? b = some o) → Qv (.ref (st.heap.objs.size + 1)) { st with heap := h' }) :
    wpAny (model pr wd) Ar (call (.type "enumerate") [val]) Qv Ex st := by
  refine callType_new F.called_enumerate (by decide) (F.typeCall_enumerate_1 _) (F.newCall_enumerate_1 _) (fun obj => F.args_object_init_2 obj _) F.entry_enumerate_new (ev_enum_made B) ⟨hv, ?_⟩
  have sz : (st.heap.push ob).objs.size = st.heap.objs.size + 1 := Heap.size_push ..
  show _ ∧ _
  rw [sz]
  have en : IsEnum ((st.heap.push ob).push { cls := .type "enumerate", data := .fields #[.none, .bool false, .ref st.heap.objs.size, rawInt 0, .none, .none] }) (st.heap.objs.size + 1) st.heap.objs.size 0 .none := by
    have z := Heap.get?_push_size (st.heap.push ob) (o := { cls := .type "enumerate", data := .fields #[.none, .bool false, .ref st.heap.objs.size, rawInt 0, .none, .none] }) rfl
    rw [sz] at z
    exact z
  exact ⟨⟨_, en, rfl⟩, k _ en (Heap.get?_push_of_some _ (Heap.get?_push_size _ B.free)) fun b o z => Heap.get?_push_of_some _ (Heap.get?_push_of_some _ z)⟩
end PySem

namespace Ev
open PySem PySem.Spec PyProof.Rows L2

/-! ### enumerate of a tuple, at the hand layer -/
theorem ty_ne {a b : String} (h : a ≠ b) {P : Prop} (e : Value.type a = Value.type b) : P := by
  injection e with e
  exact absurd e h
/-- the n members of the tuple at a, each in a new pair with its number -/
def IteT (K : PySem.W.Frag) (a : Addr) (n : Nat) : It where
  go := fun i H => i < n ∧ ∃ (xs : List V) (x : V), SqT K H a xs ∧ xs[i]? = some x ∧ xs.length = n
  yld := fun i H v H' => ∃ T x, v = .ref T ∧ H T = none ∧ H' = upd H T (.tup [.int (i : Nat), x]) ∧ ∀ xs, SqT K H a xs → xs[i]? = some x
  stop := fun i H => n ≤ i ∧ ∃ xs : List V, SqT K H a xs ∧ xs.length = n
theorem turn_enumT {P : Program} {w : World} {K : PySem.W.Frag} {elts : List Expr} {kk : Nat} {tpos : Pos} (a e it : Addr) (n : Nat) :
    Turn P w K (.Tuple elts kk tpos) (IteT K a n) [e, it] e (fun i h => ((∃ old, IsEnum h e it ((i : Nat) : Int) old) ∧ h.IsTupleIter it a i ∧ e ≠ it) ∧ i ≤ n) where
  mem := List.mem_cons_self
  obj := by
    rintro i h ⟨⟨⟨old, he⟩, ⟨o, ho, hc, hd⟩, _⟩, _⟩ b hb
    rcases List.mem_cons.mp hb with z | z
    · subst z; exact ⟨_, he, fun v q => nomatch q⟩
    · have z' := List.mem_singleton.mp z
      subst z'
      exact ⟨o, ho, fun v q => by rw [hd] at q; cases q⟩
  keep := by
    rintro i h h' ⟨⟨⟨old, he⟩, hi, hne⟩, hn⟩ k
    exact ⟨⟨⟨old, k e (by simp) _ he⟩, hi.at fun o q => k it (by simp) o q, hne⟩, hn⟩
  item := by
    intro X hP hw hK hc i pins s σ H Ex I hf hst hgo
    subst hP hw hK
    obtain ⟨⟨⟨old, he⟩, hit, hne⟩, hin⟩ := hst
    obtain ⟨hi, xs, x, hq, hx, hln⟩ := hgo
    obtain ⟨its, rv, tp, hz⟩ := I.tuple hq
    obtain ⟨u, hu, ru⟩ := rv.get hx
    have lte : e < s.heap.objs.size := Heap.lt_size he
    have lti : it < s.heap.objs.size := by obtain ⟨_, q, _⟩ := hit; exact Heap.lt_size q
    have nea : a ≠ e := fun z => by
      subst z
      obtain ⟨o, q, c, _⟩ := tp
      have he' : s.heap.get? a = some _ := he
      rw [he'] at q; cases q
      exact ty_ne (by decide) c
    have nia : a ≠ it := fun z => by
      subst z
      obtain ⟨o, q, c, _⟩ := tp
      obtain ⟨o2, q2, c2, _⟩ := hit
      rw [q] at q2; cases q2
      rw [c] at c2; exact ty_ne (by decide) c2
    have hlt : i < its.toArray.size := by
      have := (List.getElem?_eq_some_iff.mp hu).1
      simpa using this
    have hh : X.A.in1.handled = none := I.ok.hd hc
    refine wpAny_pyNext_enum_itemD (fp := [it, a]) (St := fun i h => h.IsTupleIter it a i ∧ h.IsTuple a its.toArray) (Draws.tuple hh it a nia its.toArray) he ⟨hit, tp⟩ hlt hne (by simp [hne, Ne.symm nea]) fun y h1 tk hy ho hit1 hT hsz hk => ?_
    have ey : y = u := by
      have : its.toArray[i]? = some u := by simpa using hu
      rw [this] at hy; exact (Option.some.inj hy).symm
    subst ey
    refine ⟨_, rfl, wpAny_letOwnedTupleGo_enum (s := { s with heap := h1, toks := tk + 1 }) ho fun h2 he2 sb => ?_⟩
    have hT2 : h2.get? s.heap.objs.size = some { cls := .type "tuple", data := .seq #[.int i tk, y] } := (sb.2 _ (Nat.ne_of_gt lte)).trans hT
    have new : ObjOk X.prog X.w (upd H s.heap.objs.size (.tup [.int (i : Nat), x])) h2 s.heap.objs.size (.tup [.int (i : Nat), x]) :=
      ⟨by show 2 ≤ sizeLine; decide, [.int i tk, y], Paired.cons ⟨_, rfl⟩ (Paired.cons ru Paired.nil), ⟨_, hT2, rfl, _, rfl⟩⟩
    have I1 : Inv X pins σ (upd H s.heap.objs.size (.tup [.int (i : Nat), x])) { s with heap := h2, toks := tk + 1 } :=
      I.turnedNew (ch := [e, it]) (fun b ob hb q => (sb.2 b (fun z => hb (by simp [z]))).trans (hk b ob (fun z => hb (by simp [z])) (fun z => hb (by simp [z])) q)) hf (Nat.le_refl _) new
    refine ⟨.ref s.heap.objs.size, _, I1, rfl, ⟨_, x, rfl, I.hok.fresh (Nat.le_refl _), rfl, fun ys hy => by rw [I.tuple_inj hy hq]; exact hx⟩, ⟨⟨⟨y, ?_⟩, hit1.1.at fun o q => (sb.2 it (Ne.symm hne)).trans q, hne⟩, hi⟩, fun b hb => ?_⟩
    · have e1 : ((i + 1 : Nat) : Int) = (i : Int) + 1 := by omega
      rw [e1]; exact he2
    · have hb' : b < s.heap.objs.size := by
        rcases List.mem_cons.mp hb with z | z
        · rw [z]; exact lte
        · rw [List.mem_singleton.mp z]; exact lti
      rw [upd_ne (Nat.ne_of_lt hb')]
      exact (hf b hb).1
  done := by
    intro X hP hw hK hc i pins s σ H Ex I hf hst hgo
    subst hP hw hK
    obtain ⟨⟨⟨old, he⟩, hit, hne⟩, hin⟩ := hst
    obtain ⟨hi, xs, hq, hx⟩ := hgo
    obtain ⟨its, rv, tp, hz⟩ := I.tuple hq
    have nia : a ≠ it := fun z => by
      subst z
      obtain ⟨o, q, c, _⟩ := tp
      obtain ⟨o2, q2, c2, _⟩ := hit
      rw [q] at q2; cases q2
      rw [c] at c2; exact ty_ne (by decide) c2
    obtain ⟨f0, f1, f2, f3, f4, f5⟩ := hf it (by simp)
    have hl := rv.length
    have en : i = its.toArray.size := by simp; omega
    have hh : X.A.in1.handled = none := I.ok.hd hc
    exact wpAny_pyNext_enum_endD (St := fun i h => h.IsTupleIter it a i ∧ h.IsTuple a its.toArray) (Draws.tuple hh it a nia its.toArray) he ⟨by rw [← en]; exact hit, tp⟩ fun h' eb => ⟨rfl, I.turned (t' := s.toks) (fun b o hb q => eb b o hb q) f0 f1 f3 f4 f5⟩
  self := fun A i s Q E st h => let ⟨⟨⟨_, he⟩, _⟩, _⟩ := st; wpAny_pyIter_enum he h
def iEnumT (K : PySem.W.Frag) (ta : TA) : TI := fun σ H R => ta σ H fun vs H1 => ∃ a xs, vs = [.ref a] ∧ SqT K H1 a xs ∧ R (IteT K a xs.length) H1
theorem pi_enumT {X : Cx} {e : Expr} {ta : TA} {p pos tpos : Pos} {elts : List Expr} {kk : Nat} (hg : Gl X "enumerate") (hm : X.mg "enumerate" = none) (ha : PA X [e] ta) (hs : starEach [e] X.env = [(false, eval e X.env)]) :
    PI X (.Tuple elts kk tpos) (.Call (.Name "enumerate" p) [e] [] pos) (iEnumT X.K ta) := by
  refine ⟨fun pins s σ H R I h => Call_ (ld_blt I hg hm boot_enumerate (PyProof.Rows.callWith_type1 (thn (ha.run pos pins s σ H _ I h) fun us s1 ⟨vs, H1, I1, r1, q1⟩ => ?_) hs rfl))⟩
  obtain ⟨a, xs, ex, hq, q⟩ := q1
  subst ex
  obtain ⟨u, rfl, ru⟩ := vals1 r1
  obtain rfl : u = Value.ref a := ru
  obtain ⟨its, rv, tp, hz⟩ := I1.tuple hq
  refine ev_enum_call (begins_tuple a its.toArray) tp fun h1 he hit hk => wpAny_pyIter_enum he ?_
  have I2 : Inv X pins σ H1 { s1 with heap := h1 } := I1.kept (t' := s1.toks) hk
  refine ⟨s1.heap.objs.size + 1, [s1.heap.objs.size + 1, s1.heap.objs.size], _, _, H1, rfl, I2, turn_enumT a (s1.heap.objs.size + 1) s1.heap.objs.size xs.length, ⟨⟨⟨.none, he⟩, ⟨_, hit, rfl, rfl⟩, Nat.succ_ne_self _⟩, Nat.zero_le _⟩, fun b hb => ?_, q⟩
  have up : s1.heap.objs.size ≤ b := by
    rcases List.mem_cons.mp hb with z | z
    · rw [z]; exact Nat.le_succ _
    · rw [List.mem_singleton.mp z]; exact Nat.le_refl _
  exact I1.fpOk up (I1.hok.fresh up)
end Ev

/-! Ev, part G: evaluations of what is walked; list comprehensions. -/
namespace Ev
open PySem L2

def liveAt (n : Nat) (M : Store) : Option (List D) := match M[n]? with
  | some (.lst ds) => some ds
  | some (.frz ds) => some ds
  | _ => none
def itVals (ds : List D) : Iter := fun i _ => some ds[i]?
def itLive (n : Nat) : Iter := fun i M => (liveAt n M).map fun ds => ds[i]?
def itStr (z : Str) : Iter := fun i _ => some (z.cps[i]?.map fun c => .str ⟨#[c]⟩)
def itD (d : D) (M : Store) : Out Iter := match d with
  | .tup ds => .ok (itVals ds) M
  | .ktp ds => .ok (itVals ds) M
  | .str z => .ok (itStr z) M
  | .ref n => (match liveAt n M with
    | some _ => .ok (itLive n) M
    | none => .bad)
  | _ => .bad
def itE (f : EvE) : EvIt := fun eta M => (f eta M).bind itD
def itRg (lo : Int) (n : Nat) : Iter := fun i _ => some (if i < n then some (.int (lo + i)) else none)
def itRange1 (g : EvL) : EvIt := fun eta M => (g eta M).bind fun ds M1 => match ds with
  | [.int j] => if -(2 ^ 62) ≤ j ∧ j < 2 ^ 62 then .ok (itRg 0 j.toNat) M1 else .bad
  | _ => .bad
def itRange2 (g : EvL) : EvIt := fun eta M => (g eta M).bind fun ds M1 => match ds with
  | [.int i, .int j] => if -(2 ^ 62) ≤ i ∧ i < 2 ^ 62 ∧ -(2 ^ 62) ≤ j ∧ j < 2 ^ 62 then .ok (itRg i (j - i).toNat) M1 else .bad
  | _ => .bad
def itRgC (lo c : Int) (n : Nat) : Iter := fun i _ => some (if i < n then some (.int (lo + i * c)) else none)
def itRange3 (g : EvL) : EvIt := fun eta M => (g eta M).bind fun ds M1 => match ds with
  | [.int i, .int j, .int c] => if c ≠ 0 ∧ c.natAbs < 1073741824 ∧ Builtin.Range.small i j c = true ∧ 0 ≤ Builtin.Range.rangeSize i j c then .ok (itRgC i c (Builtin.Range.rangeSize i j c).toNat) M1 else .bad
  | _ => .bad
def itEnumV (ds : List D) : Iter := fun i _ => some (ds[i]?.map fun d => .tup [.int i, d])
def itEnumL (n : Nat) : Iter := fun i M => (liveAt n M).map fun ds => ds[i]?.map fun d => .tup [.int i, d]
def itEnum (g : EvL) : EvIt := fun eta M => (g eta M).bind fun ds M1 => match ds with
  | [.tup es] => .ok (itEnumV es) M1
  | [.ref n] => (match liveAt n M1 with
    | some _ => .ok (itEnumL n) M1
    | none => .bad)
  | _ => .bad

section
variable {G : Gd} {X : Cx} {W : WX} {rho : List Addr} {H : Hp} {M : Store}
theorem live_rep {T : List Addr} {K : PySem.W.Frag} (S : StR K T rho H M) {n : Nat} {ds : List D} {a : Addr} (h : liveAt n M = some ds) (ha : rho[n]? = some a) : ∃ vs, SqL K H a vs ∧ Reps K rho H ds vs := by
  unfold liveAt at h
  split at h
  · rename_i es hm
    simp only [Option.some.injEq] at h; subst h
    obtain ⟨vs, g1, g2⟩ := S.at_ _ a _ ha hm
    exact ⟨vs, SqL.of g1, g2⟩
  · rename_i es hm
    simp only [Option.some.injEq] at h; subst h
    obtain ⟨vs, g1, g2⟩ := S.at_ _ a _ ha hm
    exact ⟨vs, g1.sq, g2⟩
  · cases h
theorem Reps.getN {K : PySem.W.Frag} {ds : List D} {vs : List V} {i : Nat} (r : Reps K rho H ds vs) (h : ds[i]? = none) : vs.length ≤ i := by
  rw [r.length]; exact List.getElem?_eq_none_iff.mp h
/-- a list's own answer, which does not hang on how it is read -/
theorem sql_get {K : PySem.W.Frag} {a : Addr} {vs : List V} {i : Nat} {v : V} (hu : ∀ ys, SqL K H a ys → ys = vs) (h : vs[i]? = some v) : ∀ ys, SqL K H a ys → ys[i]? = some v := fun ys hy => by rw [hu ys hy]; exact h
theorem iter_vals {ds : List D} {a : Addr} {vs : List V} (h1 : SqT G.K H a vs) (h2 : Reps G.K rho H ds vs) : IterR G rho H (itVals ds) (Itt G.K a) := fun r1 H1 M1 i e1 S1 => by
  have q := e1.sq h1
  have rs := Reps.mono e1 _ _ h2
  unfold itVals
  cases e : ds[i]? with
  | none => exact ⟨vs, q, rs.getN e⟩
  | some d =>
    obtain ⟨v, hv, rv⟩ := rs.get e
    refine ⟨⟨vs, v, q, hv⟩, fun x H2 ⟨e2, hx⟩ => ?_⟩
    subst e2
    have := hx vs q
    rw [hv] at this; cases this
    exact ⟨Ext.refl _ _, S1, rv⟩
theorem iter_live {n : Nat} {a : Addr} (ha : rho[n]? = some a) : IterR G rho H (itLive n) (Itl G.K a) := fun r1 H1 M1 i e1 S1 => by
  unfold itLive
  cases e : liveAt n M1 with
  | none => exact True.intro
  | some ds =>
    obtain ⟨vs, q, rs⟩ := live_rep S1 e (e1.get ha)
    simp only [Option.map_some]
    cases e2 : ds[i]? with
    | none => exact ⟨vs, q, rs.getN e2⟩
    | some d =>
      obtain ⟨v, hv, rv⟩ := rs.get e2
      refine ⟨⟨vs, v, q, hv⟩, fun x H2 ⟨e3, hx⟩ => ?_⟩
      subst e3
      have := hx vs q
      rw [hv] at this; cases this
      exact ⟨Ext.refl _ _, S1, rv⟩
theorem iter_str {z : Str} : IterR G rho H (itStr z) (Its z) := fun r1 H1 M1 i e1 S1 => by
  unfold itStr
  cases e : z.cps[i]? with
  | none => exact Array.getElem?_eq_none_iff.mp e
  | some c =>
    simp only [Option.map_some]
    refine ⟨(Array.getElem?_eq_some_iff.mp e).1, fun x H2 ⟨e2, c', hc, hx⟩ => ?_⟩
    subst e2
    rw [e] at hc; cases hc
    exact ⟨Ext.refl _ _, S1, by subst hx; simp [Rep]⟩
theorem iter_rg {lo : Int} {n : Nat} : IterR G rho H (itRg lo n) (Itr lo n) := fun r1 H1 M1 i e1 S1 => by
  unfold itRg
  by_cases h : i < n
  · simp only [if_pos h]
    refine ⟨h, fun x H2 ⟨e2, hx⟩ => ?_⟩
    subst e2
    exact ⟨Ext.refl _ _, S1, by subst hx; simp [Rep]⟩
  · simp only [if_neg h]
    exact Nat.le_of_not_lt h
theorem iter_rgC {lo c : Int} {n : Nat} : IterR G rho H (itRgC lo c n) (Itc lo c n) := fun r1 H1 M1 i e1 S1 => by
  unfold itRgC
  by_cases h : i < n
  · simp only [if_pos h]
    refine ⟨h, fun x H2 ⟨e2, hx⟩ => ?_⟩
    subst e2
    exact ⟨Ext.refl _ _, S1, by subst hx; simp [Rep]⟩
  · simp only [if_neg h]
    exact Nat.le_of_not_lt h
theorem pair_new {K : PySem.W.Frag} {T : List Addr} {i : Nat} {d : D} {v : V} {p : Addr} (S : StR K T rho H M) (hp : H p = none) (rv : Rep K rho H d v) :
    Ext rho H rho (upd H p (.tup [.int (i : Nat), v])) ∧ StR K T rho (upd H p (.tup [.int (i : Nat), v])) M ∧ Rep K rho (upd H p (.tup [.int (i : Nat), v])) (.tup [.int i, d]) (.ref p) := by
  have E : Ext rho H rho (upd H p (.tup [.int (i : Nat), v])) := Ext.laid hp
  refine ⟨E, S.laid hp, ?_⟩
  simp only [Rep]
  exact ⟨p, _, rfl, upd_same, Reps.cons (by simp [Rep]) (Reps.cons (Rep.mono E _ _ rv) Reps.nil)⟩
theorem iter_enumV {ds : List D} {a : Addr} {vs : List V} (h1 : SqT G.K H a vs) (h2 : Reps G.K rho H ds vs) : IterR G rho H (itEnumV ds) (IteT G.K a vs.length) := fun r1 H1 M1 i e1 S1 => by
  have q := e1.sq h1
  have rs := Reps.mono e1 _ _ h2
  unfold itEnumV
  cases e : ds[i]? with
  | none => exact ⟨rs.getN e, vs, q, rfl⟩
  | some d =>
    obtain ⟨v, hv, rv⟩ := rs.get e
    simp only [Option.map_some]
    refine ⟨⟨(List.getElem?_eq_some_iff.mp hv).1, vs, v, q, hv, rfl⟩, fun x H2 ⟨p, y, hx, hp, e2, hy⟩ => ?_⟩
    subst e2; subst hx
    have := hy vs q
    rw [hv] at this; cases this
    exact pair_new S1 hp rv
theorem iter_enumL {n : Nat} {a : Addr} (ha : rho[n]? = some a) : IterR G rho H (itEnumL n) (Ite G.K a) := fun r1 H1 M1 i e1 S1 => by
  unfold itEnumL
  cases e : liveAt n M1 with
  | none => exact True.intro
  | some ds =>
    obtain ⟨vs, q, rs⟩ := live_rep S1 e (e1.get ha)
    simp only [Option.map_some]
    cases e2 : ds[i]? with
    | none => exact ⟨vs, q, rs.getN e2⟩
    | some d =>
      obtain ⟨v, hv, rv⟩ := rs.get e2
      simp only [Option.map_some]
      refine ⟨⟨vs, v, q, hv⟩, fun x H2 ⟨p, y, hx, hp, e3, hy⟩ => ?_⟩
      subst e3; subst hx
      have := hy vs q
      rw [hv] at this; cases this
      exact pair_new S1 hp rv

theorem iv_val {f : EvE} {tg e : Expr} (hK : X.K = G.K) (he : PEv G X W f e) : PIv G X W (itE f) tg e :=
  PI.weak (PI.or (PI.or (pi_list he) (pi_tup he)) (pi_str he)) fun σ H R ⟨eta, M, rho, V, S, P⟩ => by
    unfold itE at P
    cases e1 : f eta M with
    | bad => rw [e1] at P; exact P.elim
    | exc x fs M1 => rw [e1] at P; exact .inl (.inl ⟨eta, M, rho, V, S, by rw [e1]; exact P⟩)
    | ok d M1 =>
      rw [e1] at P
      have P1 : Post G W σ rho H (fun rho' H' J _ => ∀ J', IterR G rho' H' J J' → R J' H') (itD d M1) := P
      cases d <;> simp only [itD] at P1 <;> try exact P1.elim
      · refine .inr ⟨eta, M, rho, V, S, ?_⟩
        rw [e1]
        exact fun r1 H1 e1 S1 v rv => ⟨_, rep_str rv, P1 r1 H1 e1 S1 _ iter_str⟩
      · refine .inl (.inr ⟨eta, M, rho, V, S, ?_⟩)
        rw [e1]
        exact fun r1 H1 e1 S1 v rv => by
          obtain ⟨a, vs, rfl, h1, h2⟩ := rep_tup rv
          rw [hK]
          exact ⟨a, rfl, ⟨vs, SqT.of h1⟩, P1 r1 H1 e1 S1 _ (iter_vals (SqT.of h1) h2)⟩
      · split at P1
        · rename_i ds hl
          refine .inl (.inl ⟨eta, M, rho, V, S, ?_⟩)
          rw [e1]
          exact fun r1 H1 e1 S1 v rv => by
            obtain ⟨a, rfl, ha⟩ := rep_ref rv
            obtain ⟨vs, q, _⟩ := live_rep S1 hl ha
            rw [hK]
            exact ⟨a, rfl, ⟨vs, q⟩, P1 r1 H1 e1 S1 _ (iter_live ha)⟩
        · exact P1.elim
      · refine .inl (.inr ⟨eta, M, rho, V, S, ?_⟩)
        rw [e1]
        exact fun r1 H1 e1 S1 v rv => by
          have rv' := rv
          simp only [Rep] at rv'
          obtain ⟨a, vs, rfl, h1, h2⟩ := rv'
          rw [hK]
          exact ⟨a, rfl, ⟨vs, h1⟩, P1 r1 H1 e1 S1 _ (iter_vals h1 h2)⟩
theorem iv_range1 {g : EvL} {tg a : Expr} {p pos : Pos} (hg : Gl X "range") (hm : X.mg "range" = none) (ha : PLv G X W g [a]) (hs : starEach [a] X.env = [(false, eval a X.env)] := by rfl) : PIv G X W (itRange1 g) tg (.Call (.Name "range" p) [a] [] pos) :=
  PI.weak (pi_range1 hg hm ha hs) fun σ H R ⟨eta, M, rho, V, S, P⟩ => ⟨eta, M, rho, V, S, P.bind.imp fun r1 H1 ds M1 e1 S1 P1 vs rvs => by
    match ds, P1 with
    | [.int j], P1 =>
      simp only at P1
      split at P1
      · rename_i h
        obtain ⟨v, rfl, rv⟩ := rvs.one
        exact ⟨j, by rw [rep_int rv], h.1, h.2, P1.now S1 _ iter_rg⟩
      · exact P1.elim⟩
theorem iv_range2 {g : EvL} {tg a b : Expr} {p pos : Pos} (hg : Gl X "range") (hm : X.mg "range" = none) (ha : PLv G X W g [a, b]) (hs : starEach [a, b] X.env = [(false, eval a X.env), (false, eval b X.env)] := by rfl) (hs2 : starEach [b] X.env = [(false, eval b X.env)] := by rfl) :
    PIv G X W (itRange2 g) tg (.Call (.Name "range" p) [a, b] [] pos) :=
  PI.weak (pi_range2 hg hm ha hs hs2) fun σ H R ⟨eta, M, rho, V, S, P⟩ => ⟨eta, M, rho, V, S, P.bind.imp fun r1 H1 ds M1 e1 S1 P1 vs rvs => by
    match ds, P1 with
    | [.int i, .int j], P1 =>
      simp only at P1
      split at P1
      · rename_i h
        obtain ⟨v, w, rfl, rv, rw'⟩ := rvs.two
        exact ⟨i, j, by rw [rep_int rv, rep_int rw'], h, P1.now S1 _ iter_rg⟩
      · exact P1.elim⟩
theorem iv_range3 {g : EvL} {tg a b c : Expr} {p pos : Pos} (hg : Gl X "range") (hm : X.mg "range" = none) (ha : PLv G X W g [a, b, c])
    (hs : starEach [a, b, c] X.env = (false, eval a X.env) :: starEach [b, c] X.env := by rfl) (hpl : (backTo pos (starEach [b, c] X.env)).any (·.1) = false := by rfl) : PIv G X W (itRange3 g) tg (.Call (.Name "range" p) [a, b, c] [] pos) :=
  PI.weak (pi_range3 hg hm ha hs hpl) fun σ H R ⟨eta, M, rho, V, S, P⟩ => ⟨eta, M, rho, V, S, P.bind.imp fun r1 H1 ds M1 e1 S1 P1 vs rvs => by
    match ds, P1 with
    | [.int i, .int j, .int c], P1 =>
      simp only at P1
      split at P1
      · rename_i h
        obtain ⟨v, w, u, rfl, rv, rw', ru⟩ := rvs.three
        exact ⟨i, j, c, _, by rw [rep_int rv, rep_int rw', rep_int ru], ⟨h.1, h.2.1, h.2.2.1, (Int.toNat_of_nonneg h.2.2.2).symm⟩, P1.now S1 _ iter_rgC⟩
      · exact P1.elim⟩
theorem iv_enum {g : EvL} {e : Expr} {p pos tpos : Pos} {elts : List Expr} {kk : Nat} (hK : X.K = G.K) (hg : Gl X "enumerate") (hm : X.mg "enumerate" = none) (ha : PLv G X W g [e]) (hs : starEach [e] X.env = [(false, eval e X.env)] := by rfl) :
    PIv G X W (itEnum g) (.Tuple elts kk tpos) (.Call (.Name "enumerate" p) [e] [] pos) :=
  PI.weak (PI.or (pi_enum hg hm ha hs) (pi_enumT hg hm ha hs)) fun σ H R ⟨eta, M, rho, V, S, P⟩ => by
    unfold itEnum at P
    cases e1 : g eta M with
    | bad => rw [e1] at P; exact P.elim
    | exc x fs M1 => rw [e1] at P; exact .inl ⟨eta, M, rho, V, S, by rw [e1]; exact P⟩
    | ok ds M1 =>
      rw [e1] at P
      simp only [Out.bind] at P
      match ds, P with
      | [.tup es], P =>
        refine .inr ⟨eta, M, rho, V, S, ?_⟩
        rw [e1]
        exact fun r1 H1 e1 S1 vs rvs => by
          obtain ⟨v, rfl, rv⟩ := rvs.one
          obtain ⟨a, vs, rfl, h1, h2⟩ := rep_tup rv
          rw [hK]
          exact ⟨a, vs, rfl, SqT.of h1, P r1 H1 e1 S1 _ (iter_enumV (SqT.of h1) h2)⟩
      | [.ref n], P =>
        simp only at P
        split at P
        · rename_i ds hl
          refine .inl ⟨eta, M, rho, V, S, ?_⟩
          rw [e1]
          exact fun r1 H1 e1 S1 vs rvs => by
            obtain ⟨v, rfl, rv⟩ := rvs.one
            obtain ⟨a, rfl, ha⟩ := rep_ref rv
            obtain ⟨vs, q, _⟩ := live_rep S1 hl ha
            rw [hK]
            exact ⟨a, vs, rfl, q, P r1 H1 e1 S1 _ (iter_enumL ha)⟩
        · exact P.elim

/-! ### list comprehensions -/
abbrev Wno : WX := fun _ _ _ _ => False
/-- the block lets nothing out -/
def noX {α : Type} (o : Out α) : Out α := match o with
  | .exc _ _ _ => .bad
  | o => o
def wipeE (eta : Env) : List Nat → Env
  | [] => eta
  | v :: vs => (wipeE eta vs).set v none
def tYesE : EvT := fun _ M => .ok true M
/-- one turn's end: the member is put to the list at n -/
def putAt (n : Nat) (d : D) (M : Store) : Option Store := match M[n]? with
  | some (.lst acc) => if acc.length < cap then some (M.set n (.lst (acc ++ [d]))) else none
  | _ => none
def lcLoop (J : Iter) (t : Tgt) (vs : List Nat) (c : EvT) (f : EvE) (eta : Env) (n : Nat) : Nat → Nat → Store → Out D
  | 0, _, _ => .bad
  | m + 1, i, M => match J i M with
    | none => .bad
    | some none => .ok (.ref n) M
    | some (some d) => (match asg M t d (wipeE eta vs) with
      | none => .bad
      | some eta1 => (noX (c eta1 M)).bind fun b M2 => if b = true then (noX (f eta1 M2)).bind fun y M3 => (match putAt n y M3 with
          | none => .bad
          | some M4 => lcLoop J t vs c f eta n m (i + 1) M4) else lcLoop J t vs c f eta n m (i + 1) M2)
def eLc (it : EvIt) (t : Tgt) (vs : List Nat) (c : EvT) (f : EvE) : EvE := fun eta M => (it eta M).bind fun J M1 => lcLoop J t vs c f eta M1.length FUEL 0 (M1 ++ [.lst []])

theorem noX_post {α : Type} {σ τ : St} {Good : Kont α} {W' : WX} {o : Out α} (h : Post G W σ rho H Good (noX o)) : Post G W' τ rho H Good o := by
  cases o with
  | ok a M => exact h
  | exc x fs M => exact h.elim
  | bad => exact h
theorem wipeE_len (eta : Env) : ∀ vs, (wipeE eta vs).length = eta.length
  | [] => rfl
  | v :: vs => by simp [wipeE, wipeE_len eta vs]
theorem EnvR.wipe {K : PySem.W.Frag} {eta : Env} {σ : St} (V : EnvR K rho H eta σ) : ∀ vs, EnvR K rho H (wipeE eta vs) (L2.wipe σ vs)
  | [] => V
  | v :: vs => by
    have ih := EnvR.wipe V vs
    refine ⟨by simp [wipeE, wipeE_len, wipe_length, V.len], fun i d h => ?_⟩
    simp only [wipeE] at h
    by_cases hi : i = v
    · subst hi
      have hl : i < (wipeE eta vs).length := by
        have := (List.getElem?_eq_some_iff.mp h).1
        simpa using this
      rw [List.getElem?_set_self hl] at h
      cases h
    · rw [List.getElem?_set_ne (Ne.symm hi)] at h
      obtain ⟨w, h1, h2⟩ := ih.at_ i d h
      exact ⟨w, by simp only [L2.wipe]; rw [List.getElem?_set_ne (Ne.symm hi)]; exact h1, h2⟩
theorem putAt_rep {T : List Addr} {K : PySem.W.Frag} (S : StR K T rho H M) {n : Nat} {d : D} {v : V} {M4 : Store} {a : Addr} (h : putAt n d M = some M4) (ha : rho[n]? = some a) (rv : Rep K rho H d v) :
    ∃ acc, H a = some (.lst acc) ∧ acc.length < sizeLine ∧ Ext rho H rho (upd H a (.lst (acc ++ [v]))) ∧ StR K T rho (upd H a (.lst (acc ++ [v]))) M4 := by
  unfold putAt at h
  split at h
  · rename_i acc hm
    split at h
    · rename_i hl
      simp only [Option.some.injEq] at h
      subst h
      obtain ⟨vs, g1, g2⟩ := S.at_ _ a _ ha hm
      have E : Ext rho H rho (upd H a (.lst (vs ++ [v]))) := Ext.write (by rw [g1]; trivial)
      exact ⟨vs, g1, by rw [g2.length, ← cap_eq]; exact hl, E, S.write ha hm rfl rfl ⟨_, upd_same, (Reps.mono E _ _ g2).append (Reps.cons (Rep.mono E _ _ rv) Reps.nil)⟩⟩
    · cases h
  · cases h
def PTsv (G : Gd) (X : Cx) (f : EvT) (cs : List Expr) : Prop := PTs X cs (tT G Wno f)
theorem PTs.weak {cs : List Expr} {t t' : TT} (h : PTs X cs t) (k : ∀ σ H Q, t' σ H Q → t σ H Q) : PTs X cs t' := ⟨fun pins s σ H Q I q => h.run pins s σ H Q I (k σ H Q q)⟩
theorem tsv_nil : PTsv G X tYesE [] := PTs.weak pts_nil fun σ H Q ⟨eta, M, rho, V, S, P⟩ => P.now S
theorem tsv_one {f : EvT} {c : Expr} (h : PTv G X Wno f c) : PTsv G X f [c] := pts_one h
theorem lc_sound {it : EvIt} {t : Tgt} {vs : List Nat} {c : EvT} {f : EvE} (hsl : ∀ i ∈ t.slots, i ∈ vs) {σ : St} {Q : VK} (h : tE G W (eLc it t vs c f) σ H Q) :
    tLc (tI G W it) (tG G t) (tT G Wno c) (tE G Wno f) vs σ H Q := by
  obtain ⟨eta, M, rho, V, S, P⟩ := h
  refine ⟨eta, M, rho, V, S, P.bind.imp fun r1 H1 J M1 e1 S1 P1 J' R D hD => ?_⟩
  have E0 : Ext r1 H1 (r1 ++ [D]) (upd H1 D (.lst [])) := (Ext.laid hD).trans Ext.grow
  have S0 : StR G.K G.T (r1 ++ [D]) (upd H1 D (.lst [])) (M1 ++ [.lst []]) := S1.alloc hD ⟨[], upd_same, Reps.nil⟩
  have hDn : (r1 ++ [D])[M1.length]? = some D := by rw [← S1.len, List.getElem?_append_right (Nat.le_refl _)]; simp
  refine ⟨fun i m H' => ∃ M' rho', Ext (r1 ++ [D]) (upd H1 D (.lst [])) rho' H' ∧ StR G.K G.T rho' H' M' ∧ Post G W σ rho' H' (GoodD G.K Q) (lcLoop J t vs c f eta M1.length m i M'), ⟨FUEL, _, _, Ext.refl _ _, S0, P1.ext E0⟩, ?_⟩
  rintro i m H' ⟨M', rho', E1, S', P'⟩
  have E01 := E0.trans E1
  cases m with
  | zero => exact P'.elim
  | succ m =>
    simp only [lcLoop] at P'
    have Rj := R rho' H' M' i E01 S'
    split at P'
    · exact P'.elim
    · rename_i hJ
      rw [hJ] at Rj
      refine .inl ⟨Rj, P'.now S' _ ?_⟩
      simp only [Rep]
      exact ⟨D, rfl, E1.get hDn⟩
    · rename_i d hJ
      rw [hJ] at Rj
      obtain ⟨go, yl⟩ := Rj
      refine .inr ⟨go, fun H2 => ∃ M' rho', Ext (r1 ++ [D]) (upd H1 D (.lst [])) rho' H2 ∧ StR G.K G.T rho' H2 M' ∧ Post G W σ rho' H2 (GoodD G.K Q) (lcLoop J t vs c f eta M1.length m (i + 1) M'), fun H2 h' => ⟨m, Nat.lt_succ_self m, h'⟩, fun x H2 hy => ?_⟩
      obtain ⟨e3, S3, rx⟩ := yl x H2 hy
      split at P'
      · exact P'.elim
      · rename_i eta1 ha
        have V3 : EnvR G.K rho' H2 (wipeE eta vs) (wipe σ vs) := (((V.mono e1).mono E01).mono e3).wipe vs
        refine ⟨wipeE eta vs, M', rho', d, eta1, V3, S3, rx, ha, fun σ2 V2 w2 => ⟨?_, eta1, M', rho', V2, S3, noX_post (σ := σ) ((P'.ext e3).bind.imp fun r4 H4 b M4 e4 S4 P4 => ?_)⟩⟩
        · rw [w2 vs hsl]
          have ww : ∀ (us : List Nat) (τ : St), (∀ i ∈ us, τ[i]? = some none ∨ τ.length ≤ i) → wipe τ us = τ := by
            intro us
            induction us with
            | nil => intro τ _; rfl
            | cons u us ih =>
              intro τ h
              simp only [wipe]
              rw [ih τ fun i hi => h i (List.mem_cons_of_mem _ hi)]
              rcases h u List.mem_cons_self with hu | hu
              · have hl := (List.getElem?_eq_some_iff.mp hu).1
                have hv := (List.getElem?_eq_some_iff.mp hu).2
                conv => lhs; rw [← hv]
                exact List.set_getElem_self hl
              · exact List.set_eq_of_length_le hu
          refine ww vs _ fun i hi => ?_
          have mem_none : ∀ (us : List Nat) (τ : St), i ∈ us → (wipe τ us)[i]? = some none ∨ (wipe τ us).length ≤ i := by
            intro us
            induction us with
            | nil => intro τ h; cases h
            | cons u us ih =>
              intro τ h
              simp only [wipe]
              by_cases hu : i = u
              · subst hu
                by_cases hl : i < (wipe τ us).length
                · left; rw [List.getElem?_set_self hl]
                · right; simp; omega
              · rcases List.mem_cons.mp h with z | z
                · exact absurd z hu
                · rcases ih τ z with q | q
                  · left; rw [List.getElem?_set_ne (Ne.symm hu)]; exact q
                  · right; simpa using q
          exact mem_none vs σ hi
        · have E4 : Ext (r1 ++ [D]) (upd H1 D (.lst [])) r4 H4 := (E1.trans e3).trans e4
          cases b with
          | false => exact ⟨M4, r4, E4, S4, P4⟩
          | true =>
            refine ⟨eta1, M4, r4, V2.mono e4, S4, noX_post (σ := σ) (P4.bind.imp fun r5 H5 y M5 e5 S5 P5 v rv => ?_)⟩
            split at P5
            · exact P5.elim
            · rename_i M6 hp
              obtain ⟨acc, g1, g2, g3, g4⟩ := putAt_rep S5 hp ((E4.trans e5).get hDn) rv
              exact ⟨acc, g1, g2, M6, r5, (E4.trans e5).trans g3, g4, P5.ext g3⟩
/-- what a comprehension's block is made of, in whatever block it runs -/
abbrev InBlk (X : Cx) (scope : Scope) (P : Cx → Prop) : Prop := ∀ (s : Shared) (H : Hp) (C : Addr) (cl : List (Str × Addr)) (fp : List Addr), P (X.blk s H scope (compEnvC scope cl C X.env) fp)
theorem ev_lc {it : EvIt} {t : Tgt} {c : EvT} {f : EvE} {own : List (Str × Nat)} {elt tg iter : Expr} {ifs : List Expr} {scope : Scope} {pos : Pos} (hc : X.calm = true) (hN : X.N.Nodup) (hi : PIv G X W it tg iter) (ok : BlkOk X.N X.env.scope scope own)
    (hg : InBlk X scope fun Y => PGv G Y t tg) (ht : InBlk X scope fun Y => PTsv G Y c ifs) (he : InBlk X scope fun Y => PEv G Y Wno f elt) (hsl : ∀ i ∈ t.slots, i ∈ own.map (·.2)) (hs : ∀ x, foldedSetIterable iter X.env x = pure x := by intro _; rfl) :
    PEv G X W (eLc it t (own.map (·.2)) c f) (.ListComp elt [⟨tg, iter, ifs, 0⟩] scope pos) :=
  PE.weak (pe_lc hc hN hi ok hg ht he hs) fun σ H Q h => lc_sound hsl h
/-- name = [..] on one line, the name a local -/
theorem sv_setLc {i : Nat} {y : Str} {py : Pos} {it : EvIt} {t : Tgt} {c : EvT} {f : EvE} {own : List (Str × Nat)} {elt tg iter : Expr} {ifs : List Expr} {scope : Scope} {pos spos : Pos} (hc : X.calm = true) (hN : X.N.Nodup) (hi : PIv G X W it tg iter) (ok : BlkOk X.N X.env.scope scope own)
    (hg : InBlk X scope fun Y => PGv G Y t tg) (ht : InBlk X scope fun Y => PTsv G Y c ifs) (he : InBlk X scope fun Y => PEv G Y Wno f elt) (hsl : ∀ i ∈ t.slots, i ∈ own.map (·.2)) (hy : X.N[i]? = some y := by rfl) (hyl : X.env.scope.names.lookup y = some .local := by rfl)
    (hsw : swapsWith (.ListComp elt [⟨tg, iter, ifs, 0⟩] scope pos) (some (.Name y py)) spos.line X.env = pure true := by rfl) (hs : ∀ x, foldedSetIterable iter X.env x = pure x := by intro _; rfl) :
    PSv G X W (sAsg (.nm i) (eLc it t (own.map (·.2)) c f)) (.Assign [.Name y py] (.ListComp elt [⟨tg, iter, ifs, 0⟩] scope pos) spos) :=
  PS.weak (ps_setLc hc hN hy hyl hsw hi ok hg ht he hs) fun E σ H ⟨eta, M, rho, V, S, P⟩ => by
    refine lc_sound hsl ⟨eta, M, rho, V, S, (P.bindE V).imp fun r1 H1 d M1 e1 S1 P1 v rv => ?_⟩
    exact P1 r1 H1 _ (Ext.refl _ _) S1 ((V.mono e1).set i rv)
end
end Ev

/-! Ev, part H: built-in functions and methods, dict displays, stores. -/
namespace Ev
open PySem L2

/-- a call's arguments, then the built-in -/
def eB (f : List D → Store → Out D) (g : EvL) : EvE := fun eta M => (g eta M).bind f
def CallS (G : Gd) (f : List D → Store → Out D) (r : List V → Hp → VK → Prop) : Prop :=
  ∀ (W : WX) (σ : St) (rho : List Addr) (H : Hp) (M : Store) (ds : List D) (vs : List V) (Q : VK), StR G.K G.T rho H M → Reps G.K rho H ds vs → Post G W σ rho H (GoodD G.K Q) (f ds M) → r vs H Q
section
variable {G : Gd} {X : Cx} {W : WX}
theorem ev_callB {f : List D → Store → Out D} {r : List V → Hp → VK → Prop} {g : EvL} {id : String} {x : Str} {p pos : Pos} {e : Expr} {es : List Expr} (hc : CallR X (.builtin id) r) (hs : CallS G f r) (hg : Gl X x) (hm : X.mg x = none) (hv : bootBuiltins x = some (.builtin id)) (ha : PLv G X W g (e :: es))
    (hn : x ≠ "__name__" := by decide) (hdb : (x == ("__debug__" : Str)) = false := by decide) (he : starEach (e :: es) X.env = (false, eval e X.env) :: starEach es X.env := by rfl) (hpl : (backTo pos (starEach es X.env)).any (·.1) = false := by rfl) :
    PEv G X W (eB f g) (.Call (.Name x p) (e :: es) [] pos) :=
  PE.weak (pe_callB hc hg hm hv ha hn hdb he hpl) fun σ H Q ⟨eta, M, rho, V, S, P⟩ => ⟨eta, M, rho, V, S, P.bind.imp fun r1 H1 ds M1 e1 S1 P1 vs rvs => hs W σ r1 H1 M1 ds vs Q S1 rvs P1⟩
theorem ev_callTy {f : List D → Store → Out D} {r : List V → Hp → VK → Prop} {g : EvL} {T : String} {x : Str} {p pos : Pos} {e : Expr} {es : List Expr} (hc : CallR X (.type T) r) (hs : CallS G f r) (hg : Gl X x) (hm : X.mg x = none) (hv : bootBuiltins x = some (.type T)) (ha : PLv G X W g (e :: es))
    (hn : x ≠ "__name__" := by decide) (hdb : (x == ("__debug__" : Str)) = false := by decide) (he : starEach (e :: es) X.env = (false, eval e X.env) :: starEach es X.env := by rfl) (hpl : (backTo pos (starEach es X.env)).any (·.1) = false := by rfl) :
    PEv G X W (eB f g) (.Call (.Name x p) (e :: es) [] pos) :=
  PE.weak (pe_callTy hc hg hm hv ha hn hdb he hpl) fun σ H Q ⟨eta, M, rho, V, S, P⟩ => ⟨eta, M, rho, V, S, P.bind.imp fun r1 H1 ds M1 e1 S1 P1 vs rvs => hs W σ r1 H1 M1 ds vs Q S1 rvs P1⟩
end

/-! ### functions -/
def bAbs (ds : List D) (M : Store) : Out D := match ds with
  | [.int i] => .ok (.int (if i < 0 then -i else i)) M
  | _ => .bad
def bInt (ds : List D) (M : Store) : Out D := match ds with
  | [.int i] => .ok (.int i) M
  | [.bl b] => .ok (.int (if b then 1 else 0)) M
  | _ => .bad
def bLen (ds : List D) (M : Store) : Out D := match ds with
  | [.tup es] => .ok (.int es.length) M
  | [.str z] => if z.length ≤ cap then .ok (.int z.length) M else .bad
  | [.ref n] => (match M[n]? with
    | some (.lst es) => .ok (.int es.length) M
    | some (.frz es) => .ok (.int es.length) M
    | some (.dicK es) => .ok (.int es.length) M
    | some (.dicT es) => .ok (.int es.length) M
    | _ => .bad)
  | _ => .bad
/-- the ints of a list of values -/
def intsD : List D → Option (List Int)
  | [] => some []
  | .int i :: ds => (intsD ds).map (i :: ·)
  | _ => none
def blsD : List D → Option (List Bool)
  | [] => some []
  | .bl i :: ds => (blsD ds).map (i :: ·)
  | _ => none
def listMax : List Int → Int
  | [] => 0
  | [x] => x
  | x :: xs => max x (listMax xs)
def listMin : List Int → Int
  | [] => 0
  | [x] => x
  | x :: xs => min x (listMin xs)
def bMax (ds : List D) (M : Store) : Out D := match ds with
  | [.int i, .int j] => .ok (.int (if j > i then j else i)) M
  | [.ref n] => (match liveAt n M with
    | some es => (match intsD es with
      | some ns => if 0 < ns.length then .ok (.int (listMax ns)) M else .bad
      | none => .bad)
    | none => .bad)
  | _ => .bad
def bMin (ds : List D) (M : Store) : Out D := match ds with
  | [.int i, .int j] => .ok (.int (if j < i then j else i)) M
  | [.ref n] => (match liveAt n M with
    | some es => (match intsD es with
      | some ns => if 0 < ns.length then .ok (.int (listMin ns)) M else .bad
      | none => .bad)
    | none => .bad)
  | _ => .bad
def bSum (ds : List D) (M : Store) : Out D := match ds with
  | [.ref n] => (match liveAt n M with
    | some es => (match intsD es with
      | some ns => .ok (.int ns.sum) M
      | none => .bad)
    | none => .bad)
  | _ => .bad
def bAll (ds : List D) (M : Store) : Out D := match ds with
  | [.ref n] => (match liveAt n M with
    | some es => (match blsD es with
      | some ns => .ok (.bl (ns.all id)) M
      | none => .bad)
    | none => .bad)
  | _ => .bad
def bAny (ds : List D) (M : Store) : Out D := match ds with
  | [.ref n] => (match liveAt n M with
    | some es => (match blsD es with
      | some ns => .ok (.bl (ns.any id)) M
      | none => .bad)
    | none => .bad)
  | _ => .bad
def bTuple (ds : List D) (M : Store) : Out D := match ds with
  | [.tup es] => .ok (.tup es) M
  | [.ref n] => (match liveAt n M with
    | some es => .ok (.tup es) M
    | none => .bad)
  | _ => .bad
def bList (ds : List D) (M : Store) : Out D := match ds with
  | [.tup es] => .ok (.ref M.length) (M ++ [.lst es])
  | [.ref n] => (match liveAt n M with
    | some es => .ok (.ref M.length) (M ++ [.lst es])
    | none => .bad)
  | _ => .bad
def bRepr (ds : List D) (M : Store) : Out D := match ds with
  | [d] => (match toPy M 6 d with
    | some p => if p.showable = true ∧ p.hasDict = false ∧ p.depth ≤ 150 ∧ p.shown.length ≤ cap then .ok (.str p.shown) M else .bad
    | none => .bad)
  | _ => .bad
/-- the built-in class of a value -/
def tyOf (M : Store) : D → Option String
  | .non => some "NoneType"
  | .bl _ => some "bool"
  | .int _ => some "int"
  | .str _ => some "str"
  | .tup _ => some "tuple"
  | .ref n => (match M[n]? with
    | some (.lst _) => some "list"
    | some (.dicK _) => some "dict"
    | some (.dicT _) => some "dict"
    | _ => none)
  | _ => none
def csts : List D → Option (List String)
  | [] => some []
  | .cst (.ty n) :: ds => (csts ds).map (n :: ·)
  | _ => none
def kitAll (a : String) : List String → Option Bool
  | [] => some false
  | b :: bs => match kitB a b with
    | some true => some true
    | some false => kitAll a bs
    | none => none
/-- isinstance(x, T), isinstance(x, (T, ..)), T built-in -/
def bIsi (ds : List D) (M : Store) : Out D := match ds with
  | [x, .cst (.ty b)] => (match tyOf M x with
    | some a => (match kitB a b with
      | some k => .ok (.bl k) M
      | none => .bad)
    | none => .bad)
  | [x, .tup cs] => (match tyOf M x, csts cs with
    | some a, some bs => (match kitAll a bs with
      | some k => .ok (.bl k) M
      | none => .bad)
    | _, _ => .bad)
  | _ => .bad

section
variable {G : Gd} {X : Cx} {W : WX} {rho : List Addr} {H : Hp} {M : Store}
theorem intsD_rep {K : PySem.W.Frag} : ∀ {ds : List D} {ns : List Int} {vs : List V}, intsD ds = some ns → Reps K rho H ds vs → vs = ns.map V.int
  | [], ns, vs, h, r => by simp only [intsD, Option.some.injEq] at h; simp only [Reps] at r; subst h r; rfl
  | d :: ds, ns, vs, h, r => by
    cases d <;> simp only [intsD, Option.map_eq_some_iff] at h <;> try cases h
    rename_i i ks h
    simp only [Reps] at r
    obtain ⟨v, ws, rfl, r1, r2⟩ := r
    rw [rep_int r1, intsD_rep h.1 r2, ← h.2]; rfl
theorem blsD_rep {K : PySem.W.Frag} : ∀ {ds : List D} {ns : List Bool} {vs : List V}, blsD ds = some ns → Reps K rho H ds vs → vs = ns.map V.bl
  | [], ns, vs, h, r => by simp only [blsD, Option.some.injEq] at h; simp only [Reps] at r; subst h r; rfl
  | d :: ds, ns, vs, h, r => by
    cases d <;> simp only [blsD, Option.map_eq_some_iff] at h <;> try cases h
    rename_i i ks h
    simp only [Reps] at r
    obtain ⟨v, ws, rfl, r1, r2⟩ := r
    rw [rep_bl r1, blsD_rep h.1 r2, ← h.2]; rfl
theorem listMax_spec : ∀ {ns : List Int}, 0 < ns.length → listMax ns ∈ ns ∧ ∀ y ∈ ns, y ≤ listMax ns
  | [], h => by simp at h
  | [x], _ => by simp [listMax]
  | x :: y :: r, _ => by
    have ih := listMax_spec (ns := y :: r) (by simp)
    have e : listMax (x :: y :: r) = max x (listMax (y :: r)) := rfl
    rw [e]
    refine ⟨?_, fun z hz => ?_⟩
    · by_cases h : x ≤ listMax (y :: r)
      · rw [Int.max_eq_right h]; exact List.mem_cons_of_mem _ ih.1
      · rw [Int.max_eq_left (by omega)]; exact List.mem_cons_self
    · rcases List.mem_cons.mp hz with q | q
      · subst q; exact Int.le_max_left _ _
      · exact Int.le_trans (ih.2 z q) (Int.le_max_right _ _)
theorem listMin_spec : ∀ {ns : List Int}, 0 < ns.length → listMin ns ∈ ns ∧ ∀ y ∈ ns, listMin ns ≤ y
  | [], h => by simp at h
  | [x], _ => by simp [listMin]
  | x :: y :: r, _ => by
    have ih := listMin_spec (ns := y :: r) (by simp)
    have e : listMin (x :: y :: r) = min x (listMin (y :: r)) := rfl
    rw [e]
    refine ⟨?_, fun z hz => ?_⟩
    · by_cases h : x ≤ listMin (y :: r)
      · rw [Int.min_eq_left h]; exact List.mem_cons_self
      · rw [Int.min_eq_right (by omega)]; exact List.mem_cons_of_mem _ ih.1
    · rcases List.mem_cons.mp hz with q | q
      · subst q; exact Int.min_le_left _ _
      · exact Int.le_trans (Int.min_le_right _ _) (ih.2 z q)

def rAbsV : List V → Hp → VK → Prop := fun xs H Q => ∃ i, xs = [.int i] ∧ Q (.int (if i < 0 then -i else i)) H
theorem cr_absV : CallR X (.builtin "abs") rAbsV := call_abs
theorem cs_abs : CallS G bAbs rAbsV := by
  intro W σ rho H M ds vs Q S r P
  match ds, P with
  | [.int i], P =>
    obtain ⟨v, rfl, rv⟩ := r.one
    exact ⟨i, by rw [rep_int rv], good_int S P⟩
def rIntV : List V → Hp → VK → Prop := fun xs H Q => (∃ i, xs = [.int i] ∧ Q (.int i) H) ∨ ∃ k, xs = [.bl k] ∧ Q (.int (if k then 1 else 0)) H
theorem cr_intV : CallR X (.type "int") rIntV := call_int1
theorem cs_int : CallS G bInt rIntV := by
  intro W σ rho H M ds vs Q S r P
  match ds, P with
  | [.int i], P =>
    obtain ⟨v, rfl, rv⟩ := r.one
    exact .inl ⟨i, by rw [rep_int rv], good_int S P⟩
  | [.bl b], P =>
    obtain ⟨v, rfl, rv⟩ := r.one
    exact .inr ⟨b, by rw [rep_bl rv], good_int S P⟩
def rLenV (K : PySem.W.Frag) : List V → Hp → VK → Prop := fun xs H Q => (∃ x n, xs = [x] ∧ LenV K x H n ∧ Q (.int n) H) ∨ ((∃ a kvs, xs = [V.ref a] ∧ H a = some (.dK kvs) ∧ Q (.int kvs.length) H) ∨ rLenT xs H Q)
theorem cr_lenV : CallR X (.builtin "len") (rLenV X.K) := call_len.or (call_lenD.or call_len_dT)
theorem cs_len (hK : X.K = G.K) : CallS G bLen (rLenV X.K) := by
  rw [hK]
  intro W σ rho H M ds vs Q S r P
  match ds, P with
  | [.tup es], P =>
    obtain ⟨v, rfl, rv⟩ := r.one
    obtain ⟨a, ws, rfl, h1, h2⟩ := rep_tup rv
    exact .inl ⟨_, _, rfl, .inr ⟨ws, SqT.of h1, rfl⟩, by rw [h2.length]; exact good_int S P⟩
  | [.str z], P =>
    obtain ⟨v, rfl, rv⟩ := r.one
    cases rep_str rv
    simp only [bLen] at P
    split at P
    · rename_i h; exact .inl ⟨_, _, rfl, ⟨by rw [← cap_eq]; exact h, rfl⟩, good_int S P⟩
    · exact P.elim
  | [.ref n], P =>
    obtain ⟨v, rfl, rv⟩ := r.one
    obtain ⟨a, rfl, ha⟩ := rep_ref rv
    simp only [bLen] at P
    split at P
    · rename_i es hm
      obtain ⟨ws, g1, g2⟩ := S.at_ _ a _ ha hm
      exact .inl ⟨_, _, rfl, .inl ⟨ws, SqL.of g1, rfl⟩, by rw [g2.length]; exact good_int S P⟩
    · rename_i es hm
      obtain ⟨ws, g1, g2⟩ := S.at_ _ a _ ha hm
      exact .inl ⟨_, _, rfl, .inl ⟨ws, g1.sq, rfl⟩, by rw [g2.length]; exact good_int S P⟩
    · rename_i es hm
      obtain ⟨ws, g1, g2⟩ := S.at_ _ a _ ha hm
      have e := g2.2.length
      simp only [List.length_map] at e
      exact .inr (.inl ⟨a, ws, rfl, g1, by rw [e]; exact good_int S P⟩)
    · rename_i es hm
      obtain ⟨ws, g1, g2⟩ := S.at_ _ a _ ha hm
      have e := g2.2.length
      simp only [List.length_map] at e
      exact .inr (.inr ⟨a, ws, rfl, g1, by rw [e]; exact good_int S P⟩)
    · exact P.elim
def rMaxV (K : PySem.W.Frag) : List V → Hp → VK → Prop := fun xs H Q => (∃ i j, xs = [.int i, .int j] ∧ Q (.int (if j > i then j else i)) H) ∨ rMax K xs H Q
theorem cr_maxV (hc : X.calm = true) : CallR X (.builtin "max") (rMaxV X.K) := (call_max2 hc).or (cr_max hc)
def rMinV (K : PySem.W.Frag) : List V → Hp → VK → Prop := fun xs H Q => (∃ i j, xs = [.int i, .int j] ∧ Q (.int (if j < i then j else i)) H) ∨ rMin K xs H Q
theorem cr_minV (hc : X.calm = true) : CallR X (.builtin "min") (rMinV X.K) := (call_min2 hc).or (cr_min hc)
theorem live_ints {n : Nat} {a : Addr} {es : List D} {ns : List Int} {K : PySem.W.Frag} {T : List Addr} (S : StR K T rho H M) (ha : rho[n]? = some a) (hl : liveAt n M = some es) (hi : intsD es = some ns) : SqL K H a (ns.map V.int) := by
  obtain ⟨vs, q, rs⟩ := live_rep S hl ha
  rw [intsD_rep hi rs] at q; exact q
theorem cs_max (hK : X.K = G.K) : CallS G bMax (rMaxV X.K) := by
  rw [hK]
  intro W σ rho H M ds vs Q S r P
  match ds, P with
  | [.int i, .int j], P =>
    obtain ⟨v, w, rfl, rv, rw'⟩ := r.two
    exact .inl ⟨i, j, by rw [rep_int rv, rep_int rw'], good_int S P⟩
  | [.ref n], P =>
    obtain ⟨v, rfl, rv⟩ := r.one
    obtain ⟨a, rfl, ha⟩ := rep_ref rv
    simp only [bMax] at P
    split at P
    · rename_i es hl
      split at P
      · rename_i ns hi
        split at P
        · rename_i h0
          refine .inr ⟨a, ns, rfl, live_ints S ha hl hi, h0, fun m hm hmx => ?_⟩
          have sp := listMax_spec h0
          have e : m = listMax ns := Int.le_antisymm (sp.2 m hm) (hmx _ sp.1)
          rw [e]; exact good_int S P
        · exact P.elim
      · exact P.elim
    · exact P.elim
theorem cs_min (hK : X.K = G.K) : CallS G bMin (rMinV X.K) := by
  rw [hK]
  intro W σ rho H M ds vs Q S r P
  match ds, P with
  | [.int i, .int j], P =>
    obtain ⟨v, w, rfl, rv, rw'⟩ := r.two
    exact .inl ⟨i, j, by rw [rep_int rv, rep_int rw'], good_int S P⟩
  | [.ref n], P =>
    obtain ⟨v, rfl, rv⟩ := r.one
    obtain ⟨a, rfl, ha⟩ := rep_ref rv
    simp only [bMin] at P
    split at P
    · rename_i es hl
      split at P
      · rename_i ns hi
        split at P
        · rename_i h0
          refine .inr ⟨a, ns, rfl, live_ints S ha hl hi, h0, fun m hm hmx => ?_⟩
          have sp := listMin_spec h0
          have e : m = listMin ns := Int.le_antisymm (hmx _ sp.1) (sp.2 m hm)
          rw [e]; exact good_int S P
        · exact P.elim
      · exact P.elim
    · exact P.elim
theorem cs_sum (hK : X.K = G.K) : CallS G bSum (rSum X.K) := by
  rw [hK]
  intro W σ rho H M ds vs Q S r P
  match ds, P with
  | [.ref n], P =>
    obtain ⟨v, rfl, rv⟩ := r.one
    obtain ⟨a, rfl, ha⟩ := rep_ref rv
    simp only [bSum] at P
    split at P
    · rename_i es hl
      split at P
      · rename_i ns hi
        exact ⟨a, ns, rfl, live_ints S ha hl hi, good_int S P⟩
      · exact P.elim
    · exact P.elim
theorem cs_all (hK : X.K = G.K) : CallS G bAll (rAll X.K) := by
  rw [hK]
  intro W σ rho H M ds vs Q S r P
  match ds, P with
  | [.ref n], P =>
    obtain ⟨v, rfl, rv⟩ := r.one
    obtain ⟨a, rfl, ha⟩ := rep_ref rv
    simp only [bAll] at P
    split at P
    · rename_i es hl
      split at P
      · rename_i ns hi
        obtain ⟨ws, q, rs⟩ := live_rep S hl ha
        rw [blsD_rep hi rs] at q
        exact ⟨a, ns, rfl, q, good_bl S P⟩
      · exact P.elim
    · exact P.elim
theorem cs_any (hK : X.K = G.K) : CallS G bAny (rAny X.K) := by
  rw [hK]
  intro W σ rho H M ds vs Q S r P
  match ds, P with
  | [.ref n], P =>
    obtain ⟨v, rfl, rv⟩ := r.one
    obtain ⟨a, rfl, ha⟩ := rep_ref rv
    simp only [bAny] at P
    split at P
    · rename_i es hl
      split at P
      · rename_i ns hi
        obtain ⟨ws, q, rs⟩ := live_rep S hl ha
        rw [blsD_rep hi rs] at q
        exact ⟨a, ns, rfl, q, good_bl S P⟩
      · exact P.elim
    · exact P.elim
def rTupleV (K : PySem.W.Frag) : List V → Hp → VK → Prop := fun xs H Q => ∃ p ys, xs = [.ref p] ∧ ((SqL K H p ys ∧ ∀ l, H l = none → Q (.ref l) (upd H l (.tup ys))) ∨ (SqT K H p ys ∧ Q (.ref p) H))
theorem cr_tupleV : CallR X (.type "tuple") (rTupleV X.K) := call_tuple_of
theorem cs_tuple (hK : X.K = G.K) : CallS G bTuple (rTupleV X.K) := by
  rw [hK]
  intro W σ rho H M ds vs Q S r P
  match ds, P with
  | [.tup es], P =>
    obtain ⟨v, rfl, rv⟩ := r.one
    have rv' := rv
    obtain ⟨a, ws, rfl, h1, h2⟩ := rep_tup rv
    exact ⟨a, ws, rfl, .inr ⟨SqT.of h1, P.now S _ rv'⟩⟩
  | [.ref n], P =>
    obtain ⟨v, rfl, rv⟩ := r.one
    obtain ⟨a, rfl, ha⟩ := rep_ref rv
    simp only [bTuple] at P
    split at P
    · rename_i es hl
      obtain ⟨ws, q, rs⟩ := live_rep S hl ha
      exact ⟨a, ws, rfl, .inl ⟨q, new_tup S rs P⟩⟩
    · exact P.elim
def rListV (K : PySem.W.Frag) : List V → Hp → VK → Prop := fun xs H Q => ∃ p ys, xs = [.ref p] ∧ (SqL K H p ys ∨ SqT K H p ys) ∧ ∀ l, H l = none → Q (.ref l) (upd H l (.lst ys))
theorem cr_listV : CallR X (.type "list") (rListV X.K) := call_list_of
theorem cs_list (hK : X.K = G.K) : CallS G bList (rListV X.K) := by
  rw [hK]
  intro W σ rho H M ds vs Q S r P
  match ds, P with
  | [.tup es], P =>
    obtain ⟨v, rfl, rv⟩ := r.one
    obtain ⟨a, ws, rfl, h1, h2⟩ := rep_tup rv
    exact ⟨a, ws, rfl, .inr (SqT.of h1), new_lst S h2 P⟩
  | [.ref n], P =>
    obtain ⟨v, rfl, rv⟩ := r.one
    obtain ⟨a, rfl, ha⟩ := rep_ref rv
    simp only [bList] at P
    split at P
    · rename_i es hl
      obtain ⟨ws, q, rs⟩ := live_rep S hl ha
      exact ⟨a, ws, rfl, .inl q, new_lst S rs P⟩
    · exact P.elim
/-! repr -/
def rRepr (K : PySem.W.Frag) : List V → Hp → VK → Prop := fun xs H Q => ∃ x d, xs = [x] ∧ Dp K H x d ∧ d.showable = true ∧ d.hasDict = false ∧ d.depth ≤ 150 ∧ d.shown.length ≤ sizeLine ∧ Q (.str d.shown) H
theorem cr_repr (hu : X.A.units + 160 < cLine) (hg : X.A.guards = some []) : CallR X (.builtin "repr") (rRepr X.K) := by
  intro pins s σ H xs us Q I r ⟨x, d, ex, hd, h1, h2, h3, h4, q⟩
  subst ex
  obtain ⟨u, rfl, ru⟩ := vals1 r
  cases hd with
  | non => cases ru; exact PySem.P.repr_of_none ⟨.str _, H, I.tok _, ⟨_, rfl⟩, q⟩
  | bl b => cases ru; exact PySem.P.repr_of_bool ⟨.str _, H, I.tok _, ⟨_, rfl⟩, q⟩
  | int i => obtain ⟨t, rfl⟩ := ru; exact PySem.P.repr_of_int (by simpa [PyData.showable] using h1) ⟨.str _, H, I.tok _, ⟨_, rfl⟩, q⟩
  | str z => obtain ⟨t, rfl⟩ := ru; exact PySem.P.repr_of_str ⟨.str _, H, I.tok _, ⟨_, rfl⟩, q⟩ h4
  | lst g1 g2 =>
    obtain ⟨as, rd⟩ := Dp.reads I _ _ _ (Dp.lst g1 g2) ru
    obtain rfl : u = Value.ref _ := ru
    exact repr_of_reads' rd h1 (fun hh => by rw [h2] at hh; cases hh) hg (by omega) (fun b o e => e) (fun h' u tk hk => ⟨.str _, H, I.kept hk, ⟨_, rfl⟩, q⟩) h4
  | tup g1 g2 =>
    obtain ⟨as, rd⟩ := Dp.reads I _ _ _ (Dp.tup g1 g2) ru
    obtain rfl : u = Value.ref _ := ru
    exact repr_of_reads' rd h1 (fun hh => by rw [h2] at hh; cases hh) hg (by omega) (fun b o e => e) (fun h' u tk hk => ⟨.str _, H, I.kept hk, ⟨_, rfl⟩, q⟩) h4
theorem cs_repr (hK : X.K = G.K) : CallS G bRepr (rRepr X.K) := by
  rw [hK]
  intro W σ rho H M ds vs Q S r P
  match ds, P with
  | [d], P =>
    obtain ⟨v, rfl, rv⟩ := r.one
    simp only [bRepr] at P
    split at P
    · rename_i p hp
      split at P
      · rename_i h
        exact ⟨v, p, rfl, toPy_dp S 6 d p v hp rv, h.1, h.2.1, h.2.2.1, by rw [← cap_eq]; exact h.2.2.2, good_str S P⟩
      · exact P.elim
    · exact P.elim
/-! isinstance -/
theorem tyOf_rep {K : PySem.W.Frag} {T : List Addr} (S : StR K T rho H M) {d : D} {v : V} {a : String} (h : tyOf M d = some a) (r : Rep K rho H d v) : TyX K H v (.type a) := by
  cases d <;> simp only [tyOf, Option.some.injEq] at h <;> try cases h
  · cases rep_non r; exact .base .non
  · cases rep_bl r; exact .base (.bl _)
  · cases rep_int r; exact .base (.int _)
  · cases rep_str r; exact .base (.str _)
  · obtain ⟨b, ws, rfl, h1, h2⟩ := rep_tup r; exact .base (.tup h1)
  · obtain ⟨b, rfl, hb⟩ := rep_ref r
    split at h <;> try cases h
    · rename_i es hm; obtain ⟨ws, g1, g2⟩ := S.at_ _ b _ hb hm; exact .base (.lst g1)
    · rename_i es hm; obtain ⟨ws, g1, g2⟩ := S.at_ _ b _ hb hm; exact .base (.dK g1)
    · rename_i es hm; obtain ⟨ws, g1, g2⟩ := S.at_ _ b _ hb hm; exact .base (.dT g1)
theorem csts_rep {K : PySem.W.Frag} : ∀ {ds : List D} {bs : List String} {vs : List V}, csts ds = some bs → Reps K rho H ds vs → Paired ClsV vs (bs.map Value.type)
  | [], bs, vs, h, r => by simp only [csts, Option.some.injEq] at h; simp only [Reps] at r; subst h r; exact .nil
  | d :: ds, bs, vs, h, r => by
    match d, h with
    | .cst (.ty n), h =>
      simp only [csts, Option.map_eq_some_iff] at h
      obtain ⟨ks, h1, h2⟩ := h
      simp only [Reps] at r
      obtain ⟨v, ws, rfl, r1, r2⟩ := r
      rw [rep_cst r1, ← h2]
      exact .cons (.ty n) (csts_rep h1 r2)
theorem kitAll_ok {K : PySem.W.Frag} {a : String} : ∀ {bs : List String} {k : Bool}, kitAll a bs = some k → PySem.W.kitAny K (.type a) (bs.map Value.type) = some k
  | [], k, h => by simp only [kitAll, Option.some.injEq] at h; subst h; exact kitAny_nil
  | b :: bs, k, h => by
    simp only [kitAll] at h
    split at h
    · rename_i e; simp only [Option.some.injEq] at h; subst h
      exact kitAny_cons (kit_ty e) (fun z => by cases z) fun _ => rfl
    · rename_i e
      exact kitAny_cons (kit_ty e) (fun _ => kitAll_ok h) fun z => by cases z
    · cases h
def rIsiV (K : PySem.W.Frag) : List V → Hp → VK → Prop := fun xs H Q => rIsi K xs H Q ∨ rIsiT K xs H Q
theorem cr_isi : CallR X (.builtin "isinstance") (rIsiV X.K) := call_isi.or call_isiT
theorem cs_isi (hK : X.K = G.K) : CallS G bIsi (rIsiV X.K) := by
  rw [hK]
  intro W σ rho H M ds vs Q S r P
  match ds, P with
  | [x, .cst (.ty b)], P =>
    obtain ⟨v, w, rfl, rv, rw'⟩ := r.two
    cases rep_cst rw'
    simp only [bIsi] at P
    split at P
    · rename_i a ha
      split at P
      · rename_i k hk
        exact .inl ⟨v, .ty b, _, _, k, rfl, .ty b, tyOf_rep S ha rv, kit_ty hk, good_bl S P⟩
      · exact P.elim
    · exact P.elim
  | [x, .tup cs], P =>
    obtain ⟨v, w, rfl, rv, rw'⟩ := r.two
    obtain ⟨a, ws, rfl, h1, h2⟩ := rep_tup rw'
    simp only [bIsi] at P
    split at P
    · rename_i a' bs ha hb
      split at P
      · rename_i k hk
        exact .inr ⟨v, a, ws, _, _, k, rfl, h1, csts_rep hb h2, tyOf_rep S ha rv, kitAll_ok hk, good_bl S P⟩
      · exact P.elim
    · exact P.elim
end
end Ev

/-! Ev, part I: methods of built-in types, a tuple times an int, stores to subscripts, dict displays. -/
namespace PySem
open Sem (wp)
theorem ev_ext_tuple (la : Addr) (its : Array Value) (ln : Nat) (tb : Addr) (its2 : Array Value) (tn : Nat) (td : Option Addr) (ts : Array (Option Value)) (g0 : ¬(!its.isEmpty && Builtin.List.listTooLong (its.size + its2.size)) = true) (g1 : its.size ≤ sizeLine) (g2 : its.size + its2.size ≤ sizeLine + 1) :
    Meets (Builtin.«list.extend» ⟨[.ref la, .ref tb], []⟩) (fun _ R st => st.heap.get? la = some { cls := .type "list", dict := none, data := .seq its ln, slots := #[] } ∧ st.heap.get? tb = some { cls := .type "tuple", dict := td, data := .seq its2 tn, slots := ts } ∧
      R (.ok (.ret Value.none)) { st with heap := st.heap.update la (Obj.mapSeq fun x => x ++ its2), toks := st.toks }) :=
  .of_wp fun pr wd A R st hh => by
    obtain ⟨h0, g, d, tk, os⟩ := st
    obtain ⟨hl, hb, k⟩ := hh
    have f1 := AutoSeq1.idx_int
    have f2 := AutoSeq1.sub_tuple_tuple
    have f3 := AutoSeq1.sub_list_list
    have f4 := AutoSeq1.sub_tuple_list
    have f5 := AutoSeq1.sub_list_tuple
    have hz : (its ++ its2).size ≤ sizeLine + 1 := by rw [Array.size_append]; exact g2
    wp_walk using (wpAny_updateSeq hl rfl (hz := g1) (_hz' := hz)), AutoSeq1.wpAny_loadPart' hl, AutoSeq1.wpAny_loadPart' hb
    exact ⟨_, rfl, k⟩
theorem ev_tmul_one (la : Addr) (its : Array Value) (ln : Nat) (td : Option Addr) (ts : Array (Option Value)) (u : Tok) :
    Meets (Builtin.«tuple.__mul__» ⟨[.ref la, .int 1 u], []⟩) (fun _ R st => st.heap.get? la = some { cls := .type "tuple", dict := td, data := .seq its ln, slots := ts } ∧ R (.ok (.ret (.ref la))) st) :=
  .of_wp fun pr wd A R st hh => by
    obtain ⟨h0, g, d, tk, os⟩ := st
    obtain ⟨hl, k⟩ := hh
    have f1 := AutoSeq1.idx_int
    have c0 : (decide ((1 : Int) < -(2 ^ 63)) || decide ((1 : Int) ≥ 2 ^ 63)) = false := by decide
    have c1 : (its.isEmpty || (1 : Int) == 1) = true := by simp
    wp_walk using AutoSeq1.wpAny_loadPart' hl
    repeat (first
      | (refine wpAny_ite_false (decide_eq_false (by rw [c0]; exact Bool.false_ne_true)) ?_; wp_walk using AutoSeq1.wpAny_loadPart' hl)
      | (refine wpAny_ite_true (decide_eq_true c1) ?_; wp_walk using AutoSeq1.wpAny_loadPart' hl))
    exact ⟨_, rfl, k⟩
theorem ev_tmul_none (la : Addr) (its : Array Value) (ln : Nat) (td : Option Addr) (ts : Array (Option Value)) (n : Int) (u : Tok) (c0 : (decide (n < -(2 ^ 63)) || decide (n ≥ 2 ^ 63)) = false) (c1 : (its.isEmpty || n == 1) = false) (c2 : (decide (n ≤ 0) || its.isEmpty) = true) :
    Meets (Builtin.«tuple.__mul__» ⟨[.ref la, .int n u], []⟩) (fun _ R st => st.heap.get? la = some { cls := .type "tuple", dict := td, data := .seq its ln, slots := ts } ∧
      R (.ok (.ret (.ref st.heap.objs.size))) { st with heap := st.heap.push { cls := .type "tuple", data := .seq #[] }, toks := st.toks }) :=
  .of_wp fun pr wd A R st hh => by
    obtain ⟨h0, g, d, tk, os⟩ := st
    obtain ⟨hl, k⟩ := hh
    have f1 := AutoSeq1.idx_int
    wp_walk using AutoSeq1.wpAny_loadPart' hl
    repeat (first
      | (refine wpAny_ite_false (decide_eq_false (by rw [c0]; exact Bool.false_ne_true)) ?_; wp_walk using AutoSeq1.wpAny_loadPart' hl)
      | (refine wpAny_ite_false (decide_eq_false (by rw [c1]; exact Bool.false_ne_true)) ?_; wp_walk using AutoSeq1.wpAny_loadPart' hl)
      | (refine wpAny_ite_true (decide_eq_true c2) ?_; wp_walk using AutoSeq1.wpAny_loadPart' hl))
    exact ⟨_, rfl, k⟩
end PySem
namespace Ev
open PySem PySem.Spec PyProof.Rows L2
section
variable {X : Cx}
/-- a tuple, not empty, once or not at all -/
def rRepT1 (K : PySem.W.Frag) : R2 := fun x y H Q => ∃ l k xs, x = .ref l ∧ y = .int k ∧ SqT K H l xs ∧ xs ≠ [] ∧ -(2 ^ 63) ≤ k ∧ k ≤ 1 ∧ (k = 1 → Q (.ref l) H) ∧ (k ≤ 0 → ∀ p, H p = none → Q (.ref p) (upd H p (.tup [])))
theorem op_repT1 : OpR X (binaryOp .Mult) (rRepT1 X.K) := by
  intro pins s σ H x y v u Q I rx ry h
  obtain ⟨l, k, xs, rfl, rfl, hT, hne, h1, h2, q1, q0⟩ := h
  obtain rfl : v = Value.ref l := rx
  obtain ⟨t, rfl⟩ := ry
  obtain ⟨its, r, ⟨⟨cls, dd, data, sl⟩, ho, hc, n, hd⟩, hs⟩ := I.tuple hT
  simp only at hc hd
  subst hc hd
  have hi : its.toArray.isEmpty = false := by
    cases its with
    | nil => cases r; exact absurd rfl hne
    | cons a b => rfl
  by_cases hk : k = 1
  · subst hk
    refine wpAny_binaryOp_repeat_ref (T := "tuple") (U := "int") (by decide) ⟨_, ho, rfl⟩ (fun s' => typeIs_int s' 1 t) noFill_tuple_mul F.fills_int_mul F.slot_int_rmul repeat_tuple F.slot_int_index.lookup
      (call_meets F.slot_int_rmul (typeIs_int s 1 t) F.entry_int_rmul (F.args_int_rmul_2 _ _) (int_rmul_tuple 1 t l its.toArray n dd sl)
        ⟨ho, rfl, ⟨_, ho, rfl⟩, call_meets F.slot_tuple_mul ⟨_, ho, rfl⟩ F.entry_tuple_mul (F.args_tuple_mul_2 _ _) (ev_tmul_one l its.toArray n dd sl t) ⟨ho, ?_⟩⟩)
    exact ⟨.ref l, H, I, rfl, q1 rfl⟩
  · have k0 : k ≤ 0 := by omega
    have c0 : (decide (k < -(2 ^ 63)) || decide (k ≥ 2 ^ 63)) = false := by
      rw [decide_eq_false (by omega), decide_eq_false (by omega)] <;> rfl
    have c1 : (its.toArray.isEmpty || k == 1) = false := by
      rw [hi, Bool.false_or]
      exact beq_eq_false_iff_ne.mpr (by omega)
    have c2 : (decide (k ≤ 0) || its.toArray.isEmpty) = true := by
      rw [decide_eq_true k0]; rfl
    refine wpAny_binaryOp_repeat_ref (T := "tuple") (U := "int") (by decide) ⟨_, ho, rfl⟩ (fun s' => typeIs_int s' k t) noFill_tuple_mul F.fills_int_mul F.slot_int_rmul repeat_tuple F.slot_int_index.lookup
      (call_meets F.slot_int_rmul (typeIs_int s k t) F.entry_int_rmul (F.args_int_rmul_2 _ _) (int_rmul_tuple k t l its.toArray n dd sl)
        ⟨ho, rfl, ⟨_, ho, rfl⟩, call_meets F.slot_tuple_mul ⟨_, ho, rfl⟩ F.entry_tuple_mul (F.args_tuple_mul_2 _ _) (ev_tmul_none l its.toArray n dd sl k t c0 c1 c2) ⟨ho, ?_⟩⟩)
    refine ⟨.ref s.heap.objs.size, _, I.laid (t' := s.toks) (o := .tup []) (fun b ob q => Heap.get?_push_of_some _ q) (Nat.le_refl _) ?_, rfl, q0 k0 _ (I.hok.fresh (Nat.le_refl _))⟩
    exact ⟨Nat.zero_le _, [], Paired.nil, IsTup.new _ _⟩
def rExtT (K : PySem.W.Frag) : V → List V → Hp → VK → Prop := fun x vs H Q => ∃ l b xs zs, x = .ref l ∧ vs = [.ref b] ∧ H l = some (.lst xs) ∧ SqT K H b zs ∧ xs.length + zs.length ≤ sizeLine ∧ Q .non (upd H l (.lst (xs ++ zs)))
theorem mt_extT : MtR X "list.extend" (rExtT X.K) := by
  intro pins s σ H x vs v us Q I rx rv h
  obtain ⟨l, b, xs, zs, rfl, rfl, hH, hB, hz, q⟩ := h
  obtain rfl : v = Value.ref l := rx
  obtain ⟨u, rfl, ru⟩ := rv.one
  obtain rfl : u = Value.ref b := ru
  obtain ⟨z, its, n, r, hl, e⟩ := I.lstM hH
  obtain ⟨its2, r2, ⟨⟨cls, dd, data, sl⟩, ho, hc, n2, hd⟩, hs⟩ := I.tuple hB
  simp only at hc hd
  subst hc hd
  have hl2 := r2.length
  have hsz : its.toArray.size + its2.toArray.size ≤ sizeLine := by rw [List.size_toArray, List.size_toArray]; omega
  have hlong : ¬ (!its.toArray.isEmpty && Builtin.List.listTooLong (its.toArray.size + its2.toArray.size)) = true := by
    rw [notLongL hsz, Bool.and_false]
    exact Bool.false_ne_true
  refine call_meets F.slot_list_extend ⟨_, e, rfl⟩ F.entry_list_extend (F.args_list_extend_2 _ _) (ev_ext_tuple l its.toArray n b its2.toArray n2 dd sl hlong (by omega) (by omega)) ⟨e, ho, ?_⟩
  exact ⟨.non, _, I.lset (its' := its ++ its2) hH e (by simp) (r.append r2) (by rw [List.length_append]; omega), rfl, q⟩
end
end Ev

/-! Ev, part J: * in full, methods of lists and dicts, stores to subscripts, dict displays. -/
namespace Ev
open PySem L2
section
variable {G : Gd} {X : Cx} {W : WX}
/-! ### * in full -/
def dMulA (x y : D) (M : Store) : Out D := match x, y with
  | .tup as, .int k => if as ≠ [] ∧ -(2 ^ 63) ≤ k ∧ k ≤ 1000 ∧ as.length ≤ 1000 then .ok (.tup (List.replicate k.toNat as).flatten) M else .bad
  | x, y => dMul x y M
def rMulA (K : PySem.W.Frag) : R2 := fun x y H Q => rMulV K x y H Q ∨ rRepT1 K x y H Q
theorem op_mulA : OpR X (binaryOp .Mult) (rMulA X.K) := op_mulV.or op_repT1
theorem ds_mulA (hK : X.K = G.K) : OpS G dMulA (rMulA X.K) := by
  intro W σ rho H M x y v w Q S rx ry P
  by_cases hx : ∃ as k, x = .tup as ∧ y = .int k
  · obtain ⟨as, k, rfl, rfl⟩ := hx
    rw [hK]
    simp only [dMulA] at P
    split at P
    · rename_i h
      cases rep_int ry
      obtain ⟨a, vs, rfl, h1, h2⟩ := rep_tup rx
      have ne : vs ≠ [] := fun e => h.1 (by
        subst e
        have := h2.length; simp at this
        exact List.eq_nil_of_length_eq_zero this.symm)
      by_cases hk : 2 ≤ k
      · exact .inl (.inr (.inr ⟨a, _, vs, rfl, rfl, SqT.of h1, ne, hk, h.2.2.1, by rw [h2.length]; exact h.2.2.2, new_tup S (h2.rep _) P⟩))
      · refine .inr ⟨a, k, vs, rfl, rfl, SqT.of h1, ne, h.2.1, by omega, fun e => ?_, fun e => ?_⟩
        · subst e
          refine P.now S _ ?_
          simp only [Int.toNat_one, List.replicate_one, List.flatten_cons, List.flatten_nil, List.append_nil]
          exact rx
        · have e0 : k.toNat = 0 := by omega
          rw [e0] at P
          exact new_tup S (ds := []) (vs := []) Reps.nil P
    · exact P.elim
  · have e : dMulA x y M = dMul x y M := by
      unfold dMulA
      split
      · rename_i as k; exact absurd ⟨as, k, rfl, rfl⟩ hx
      · rfl
    rw [e] at P
    exact .inl (ds_mul hK W σ rho H M x y v w Q S rx ry P)

/-! ### methods -/
def MethS (G : Gd) (f : D → List D → Store → Out D) (r : V → List V → Hp → VK → Prop) : Prop :=
  ∀ (W : WX) (σ : St) (rho : List Addr) (H : Hp) (M : Store) (x : D) (ds : List D) (v : V) (vs : List V) (Q : VK), StR G.K G.T rho H M → Rep G.K rho H x v → Reps G.K rho H ds vs → Post G W σ rho H (GoodD G.K Q) (f x ds M) → r v vs H Q
def isLst (x : D) (M : Store) : Bool := match x with
  | .ref n => (match M[n]? with
    | some (.lst _) => true
    | _ => false)
  | _ => false
/-- xs.m(..), xs a list -/
def eMl (f : D → List D → Store → Out D) (o : EvE) (g : EvL) : EvE := fun eta M => (o eta M).bind fun x M1 => if isLst x M1 = true then (g eta M1).bind fun ds M2 => f x ds M2 else .bad
theorem isLst_rep {K : PySem.W.Frag} {T rho : List Addr} {H : Hp} {M : Store} {x : D} {v : V} (S : StR K T rho H M) (h : isLst x M = true) (r : Rep K rho H x v) : tyV K "list" v H := by
  unfold isLst at h
  split at h
  · obtain ⟨a, rfl, ha⟩ := rep_ref r
    split at h
    · rename_i ds hm
      obtain ⟨ws, g1, g2⟩ := S.at_ _ a _ ha hm
      exact .inl ⟨rfl, ws, SqL.of g1⟩
    · cases h
  · cases h
theorem ev_ml {f : D → List D → Store → Out D} {r : V → List V → Hp → VK → Prop} {fo : EvE} {g : EvL} {o e : Expr} {es : List Expr} {name : Str} {id : String} {apos cpos : Pos} (hK : X.K = G.K) (slot : Slot "list" name id) (hty : typeOf (.builtin id) = pure (.type "method_descriptor")) (hm : MtR X id r) (hs : MethS G f r)
    (ho : PEv G X W fo o) (ha : PLv G X W g (e :: es)) (hbase : attributeBase o name X.env (eval o X.env) = eval o X.env := by rfl)
    (hfew : ((backTo cpos (starEach (e :: es) X.env)).all (fun x => !x.1) && (backToKw cpos (keywordEach [] X.env)).all (fun x => x.1.isSome) && decide ((e :: es).length + ([] : List Keyword).length + (if ([] : List Keyword).isEmpty then 0 else 1) < 30)) = true := by rfl)
    (hline : (apos.endLine == cpos.line) = true := by rfl) (hst : starEach (e :: es) X.env = (false, eval e X.env) :: starEach es X.env := by rfl) (hplain : (backTo cpos (starEach es X.env)).any (·.1) = false := by rfl) :
    PEv G X W (eMl f fo g) (.Call (.Attribute o name apos) (e :: es) [] cpos) :=
  PE.weak (pe_bm PySem.F.plainAttrs_list slot hty hm ho ha hbase hfew hline hst hplain) fun σ H Q ⟨eta, M, rho, V, S, P⟩ => ⟨eta, M, rho, V, S, P.bind.imp fun r1 H1 x M1 e1 S1 P1 v rv => by
    split at P1
    · rename_i hl
      refine ⟨by rw [hK]; exact isLst_rep S1 hl rv, eta, M1, r1, V.mono e1, S1, P1.bind.imp fun r2 H2 ds M2 e2 S2 P2 vs rvs => hs W σ r2 H2 M2 x ds v vs Q S2 (Rep.mono e2 _ _ rv) rvs P2⟩
    · exact P1.elim⟩
def eMl0 (f : D → List D → Store → Out D) (o : EvE) : EvE := fun eta M => (o eta M).bind fun x M1 => if isLst x M1 = true then f x [] M1 else .bad
theorem ev_ml0 {f : D → List D → Store → Out D} {r : V → List V → Hp → VK → Prop} {fo : EvE} {o : Expr} {name : Str} {id : String} {apos cpos : Pos} (hK : X.K = G.K) (slot : Slot "list" name id) (hty : typeOf (.builtin id) = pure (.type "method_descriptor")) (hm : MtR X id r) (hs : MethS G f r)
    (ho : PEv G X W fo o) (hbase : attributeBase o name X.env (eval o X.env) = eval o X.env := by rfl) (hline : (apos.endLine == cpos.line) = true := by rfl) : PEv G X W (eMl0 f fo) (.Call (.Attribute o name apos) [] [] cpos) :=
  PE.weak (pe_bm0 PySem.F.plainAttrs_list slot hty hm ho hbase hline) fun σ H Q ⟨eta, M, rho, V, S, P⟩ => ⟨eta, M, rho, V, S, P.bind.imp fun r1 H1 x M1 e1 S1 P1 v rv => by
    split at P1
    · rename_i hl
      exact ⟨by rw [hK]; exact isLst_rep S1 hl rv, hs W σ r1 H1 M1 x [] v [] Q S1 rv Reps.nil P1⟩
    · exact P1.elim⟩
/-- behind a list's change -/
theorem set_lst {σ : St} {rho : List Addr} {H : Hp} {M : Store} {n : Nat} {a : Addr} {ds ds' : List D} {vs' : List V} {d : D} {v : V} {Q : VK} (S : StR G.K G.T rho H M) (ha : rho[n]? = some a) (hm : M[n]? = some (.lst ds)) (r : Reps G.K rho H ds' vs') (rv : Rep G.K rho H d v)
    (P : Post G W σ rho H (GoodD G.K Q) (.ok d (M.set n (.lst ds')))) : Q v (upd H a (.lst vs')) := by
  obtain ⟨ws, g1, g2⟩ := S.at_ _ a _ ha hm
  have E : Ext rho H rho (upd H a (.lst vs')) := Ext.write (by rw [g1]; trivial)
  exact P rho _ E (S.write ha hm rfl rfl ⟨_, upd_same, Reps.mono E _ _ r⟩) v (Rep.mono E _ _ rv)
def mAppend (x : D) (ds : List D) (M : Store) : Out D := match x, ds with
  | .ref n, [d] => (match M[n]? with
    | some (.lst es) => if es.length < cap then .ok .non (M.set n (.lst (es ++ [d]))) else .bad
    | _ => .bad)
  | _, _ => .bad
theorem ms_append : MethS G mAppend rAppend := by
  intro W σ rho H M x ds v vs Q S rx r P
  match x, ds, P with
  | .ref n, [d], P =>
    obtain ⟨a, rfl, ha⟩ := rep_ref rx
    obtain ⟨u, rfl, ru⟩ := r.one
    simp only [mAppend] at P
    split at P
    · rename_i es hm
      split at P
      · rename_i hl
        obtain ⟨ws, g1, g2⟩ := S.at_ _ a _ ha hm
        exact ⟨a, ws, u, rfl, rfl, g1, by rw [g2.length, ← cap_eq]; exact hl, set_lst S ha hm (g2.append (Reps.cons ru Reps.nil)) (by simp [Rep]) P⟩
      · exact P.elim
    · exact P.elim
def mExtend (x : D) (ds : List D) (M : Store) : Out D := match x, ds with
  | .ref n, [.tup ts] => (match M[n]? with
    | some (.lst es) => if es.length + ts.length ≤ cap then .ok .non (M.set n (.lst (es ++ ts))) else .bad
    | _ => .bad)
  | .ref n, [.ref m] => (match M[n]?, M[m]? with
    | some (.lst es), some (.lst ts) => if es.length + ts.length ≤ cap then .ok .non (M.set n (.lst (es ++ ts))) else .bad
    | _, _ => .bad)
  | _, _ => .bad
def rExtA (K : PySem.W.Frag) : V → List V → Hp → VK → Prop := fun x vs H Q => rExtend x vs H Q ∨ rExtT K x vs H Q
theorem mt_extA : MtR X "list.extend" (rExtA X.K) := MtR.or (r := rExtend) mt_extend mt_extT
theorem ms_extend (hK : X.K = G.K) : MethS G mExtend (rExtA X.K) := by
  rw [hK]
  intro W σ rho H M x ds v vs Q S rx r P
  match x, ds, P with
  | .ref n, [.tup ts], P =>
    obtain ⟨a, rfl, ha⟩ := rep_ref rx
    obtain ⟨u, rfl, ru⟩ := r.one
    obtain ⟨b, us, rfl, h1, h2⟩ := rep_tup ru
    simp only [mExtend] at P
    split at P
    · rename_i es hm
      split at P
      · rename_i hl
        obtain ⟨ws, g1, g2⟩ := S.at_ _ a _ ha hm
        exact .inr ⟨a, b, ws, us, rfl, rfl, g1, SqT.of h1, by rw [g2.length, h2.length, ← cap_eq]; exact hl, set_lst S ha hm (g2.append h2) (by simp [Rep]) P⟩
      · exact P.elim
    · exact P.elim
  | .ref n, [.ref m], P =>
    obtain ⟨a, rfl, ha⟩ := rep_ref rx
    obtain ⟨u, rfl, ru⟩ := r.one
    obtain ⟨b, rfl, hb⟩ := rep_ref ru
    simp only [mExtend] at P
    split at P
    · rename_i es ts hm hm2
      split at P
      · rename_i hl
        obtain ⟨ws, g1, g2⟩ := S.at_ _ a _ ha hm
        obtain ⟨us, g3, g4⟩ := S.at_ _ b _ hb hm2
        exact .inl ⟨a, b, ws, us, rfl, rfl, g1, g3, by rw [g2.length, g4.length, ← cap_eq]; exact hl, set_lst S ha hm (g2.append g4) (by simp [Rep]) P⟩
      · exact P.elim
    · exact P.elim
def mPop (x : D) (ds : List D) (M : Store) : Out D := match x, ds with
  | .ref n, [] => (match M[n]? with
    | some (.lst es) => (match es[es.length - 1]? with
      | some d => .ok d (M.set n (.lst es.dropLast))
      | none => .bad)
    | _ => .bad)
  | .ref n, [.int i] => (match M[n]? with
    | some (.lst es) => (match seqIndex? i es.length with
      | some k => (match es[k]? with
        | some d => if -(2 ^ 63) ≤ i ∧ i < 2 ^ 63 then .ok d (M.set n (.lst (es.eraseIdx k))) else .bad
        | none => .bad)
      | none => .bad)
    | _ => .bad)
  | _, _ => .bad
def rPopA : V → List V → Hp → VK → Prop := fun x vs H Q => rPop x vs H Q ∨ rPopAt x vs H Q
theorem mt_popA : MtR X "list.pop" rPopA := MtR.or (r := rPop) (r' := rPopAt) mt_pop mt_popAt
theorem ms_pop : MethS G mPop rPopA := by
  intro W σ rho H M x ds v vs Q S rx r P
  match x, ds, P with
  | .ref n, [], P =>
    obtain ⟨a, rfl, ha⟩ := rep_ref rx
    simp only [Reps] at r; subst r
    simp only [mPop] at P
    split at P
    · rename_i es hm
      split at P
      · rename_i d hd
        obtain ⟨ws, g1, g2⟩ := S.at_ _ a _ ha hm
        obtain ⟨u, hu, ru⟩ := g2.get hd
        exact .inl ⟨a, ws, u, rfl, rfl, g1, by rw [g2.length]; exact hu, set_lst S ha hm g2.dropLast ru P⟩
      · exact P.elim
    · exact P.elim
  | .ref n, [.int i], P =>
    obtain ⟨a, rfl, ha⟩ := rep_ref rx
    obtain ⟨u, rfl, ru⟩ := r.one
    cases rep_int ru
    simp only [mPop] at P
    split at P
    · rename_i es hm
      split at P
      · rename_i k hk
        split at P
        · rename_i d hd
          split at P
          · rename_i hi
            obtain ⟨ws, g1, g2⟩ := S.at_ _ a _ ha hm
            obtain ⟨u, hu, ru⟩ := g2.get hd
            exact .inr ⟨a, ws, i, k, u, rfl, rfl, g1, hi.1, hi.2, by rw [g2.length]; exact hk, hu, set_lst S ha hm (g2.erase k) ru P⟩
          · exact P.elim
        · exact P.elim
      · exact P.elim
    · exact P.elim
def mInsert (x : D) (ds : List D) (M : Store) : Out D := match x, ds with
  | .ref n, [.int i, d] => (match M[n]? with
    | some (.lst es) => if es.length < cap ∧ 0 ≤ i ∧ i < 2 ^ 63 then .ok .non (M.set n (.lst (es.take i.toNat ++ [d] ++ es.drop i.toNat))) else .bad
    | _ => .bad)
  | _, _ => .bad
def rInsert : V → List V → Hp → VK → Prop := fun x vs H Q => ∃ (l : Addr) (xs : List V) (i : Int) (y : V), x = .ref l ∧ vs = [.int i, y] ∧ H l = some (.lst xs) ∧ xs.length < sizeLine ∧ 0 ≤ i ∧ i < 2 ^ 63 ∧ Q .non (upd H l (.lst (xs.take i.toNat ++ [y] ++ xs.drop i.toNat)))
theorem mt_insertV : MtR X "list.insert" rInsert := mt_insert
theorem ms_insert : MethS G mInsert rInsert := by
  intro W σ rho H M x ds v vs Q S rx r P
  match x, ds, P with
  | .ref n, [.int i, d], P =>
    obtain ⟨a, rfl, ha⟩ := rep_ref rx
    obtain ⟨u, u2, rfl, ru, ru2⟩ := r.two
    cases rep_int ru
    simp only [mInsert] at P
    split at P
    · rename_i es hm
      split at P
      · rename_i hl
        obtain ⟨ws, g1, g2⟩ := S.at_ _ a _ ha hm
        exact ⟨a, ws, i, u2, rfl, rfl, g1, by rw [g2.length, ← cap_eq]; exact hl.1, hl.2.1, hl.2.2, set_lst S ha hm (((g2.take _).append (Reps.cons ru2 Reps.nil)).append (g2.drop _)) (by simp [Rep]) P⟩
      · exact P.elim
    · exact P.elim

/-! ### dicts: get, setdefault -/
def isDic (x : D) (M : Store) : Bool := match x with
  | .ref n => (match M[n]? with
    | some (.dicK _) => true
    | some (.dicT _) => true
    | _ => false)
  | _ => false
theorem isDic_rep {K : PySem.W.Frag} {T rho : List Addr} {H : Hp} {M : Store} {x : D} {v : V} (S : StR K T rho H M) (h : isDic x M = true) (r : Rep K rho H x v) : ∃ a, v = .ref a ∧ IsD H a := by
  unfold isDic at h
  split at h
  · obtain ⟨a, rfl, ha⟩ := rep_ref r
    split at h
    · rename_i ds hm
      obtain ⟨ws, g1, g2⟩ := S.at_ _ a _ ha hm
      exact ⟨a, rfl, .inl ⟨ws, .inl g1⟩⟩
    · rename_i ds hm
      obtain ⟨ws, g1, g2⟩ := S.at_ _ a _ ha hm
      exact ⟨a, rfl, .inr ⟨ws, .inl g1⟩⟩
    · cases h
  · cases h
def mGet (x y z : D) (M : Store) : Out D := match x with
  | .ref n => (match dictAt M n y with
    | some (some d) => .ok d M
    | some none => .ok z M
    | none => .bad)
  | _ => .bad
def eGet1 (o k : EvE) : EvE := fun eta M => (o eta M).bind fun x M1 => if isDic x M1 = true then (k eta M1).bind fun y M2 => mGet x y .non M2 else .bad
def eGet2 (o k z : EvE) : EvE := fun eta M => (o eta M).bind fun x M1 => if isDic x M1 = true then (k eta M1).bind fun y M2 => (z eta M2).bind fun d M3 => mGet x y d M3 else .bad
theorem get_rep {σ : St} {rho : List Addr} {H : Hp} {M : Store} {x y z : D} {a : Addr} {w u : V} {Q : VK} (S : StR G.K G.T rho H M) (rx : Rep G.K rho H x (.ref a)) (ry : Rep G.K rho H y w) (rz : Rep G.K rho H z u) (P : Post G W σ rho H (GoodD G.K Q) (mGet x y z M)) :
    ∃ o, DGet H a w o ∧ Q (o.getD u) H := by
  cases x <;> try exact P.elim
  simp only [mGet] at P
  obtain ⟨a', e, ha⟩ := rep_ref rx
  cases e
  split at P
  · rename_i d hd
    obtain ⟨r, g, hr⟩ := dictAt_rep S hd ha ry
    rcases hr with ⟨h, _⟩ | ⟨d', v, h1, rfl, rv⟩
    · cases h
    · cases h1
      exact ⟨_, g, P.now S v rv⟩
  · rename_i hd
    obtain ⟨r, g, hr⟩ := dictAt_rep S hd ha ry
    rcases hr with ⟨_, rfl⟩ | ⟨d', v, h1, _⟩
    · exact ⟨_, g, P.now S u rz⟩
    · cases h1
  · exact P.elim
theorem ev_get1 {fo fk : EvE} {o e : Expr} {apos cpos : Pos} (hu : X.A.units + 1 < cLine) (ho : PEv G X W fo o) (he : PEv G X W fk e) (m : M1 X o "get" apos e cpos := by exact ⟨rfl, rfl, rfl, rfl⟩) : PEv G X W (eGet1 fo fk) (.Call (.Attribute o "get" apos) [e] [] cpos) :=
  PE.weak (pe_dget1 hu ho he m) fun σ H Q ⟨eta, M, rho, V, S, P⟩ => ⟨eta, M, rho, V, S, P.bind.imp fun r1 H1 x M1 e1 S1 P1 v rv => by
    split at P1
    · rename_i hd
      obtain ⟨a, rfl, da⟩ := isDic_rep S1 hd rv
      exact ⟨a, rfl, da, eta, M1, r1, V.mono e1, S1, P1.bind.imp fun r2 H2 y M2 e2 S2 P2 w rw' => get_rep S2 (Rep.mono e2 _ _ rv) rw' (by simp [Rep]) P2⟩
    · exact P1.elim⟩
theorem ev_get2 {fo fk fz : EvE} {o e f : Expr} {apos cpos : Pos} (hu : X.A.units + 1 < cLine) (ho : PEv G X W fo o) (he : PEv G X W fk e) (hf : PEv G X W fz f) (m : M2 X o "get" apos e f cpos := by exact ⟨rfl, rfl, rfl, rfl⟩) : PEv G X W (eGet2 fo fk fz) (.Call (.Attribute o "get" apos) [e, f] [] cpos) :=
  PE.weak (pe_dget2 hu ho he hf m) fun σ H Q ⟨eta, M, rho, V, S, P⟩ => ⟨eta, M, rho, V, S, P.bind.imp fun r1 H1 x M1 e1 S1 P1 v rv => by
    split at P1
    · rename_i hd
      obtain ⟨a, rfl, da⟩ := isDic_rep S1 hd rv
      exact ⟨a, rfl, da, eta, M1, r1, V.mono e1, S1, P1.bind.imp fun r2 H2 y M2 e2 S2 P2 w rw' => ⟨eta, M2, r2, (V.mono e1).mono e2, S2, P2.bind.imp fun r3 H3 z M3 e3 S3 P3 u ru => get_rep S3 (Rep.mono e3 _ _ (Rep.mono e2 _ _ rv)) (Rep.mono e3 _ _ rw') ru P3⟩⟩
    · exact P1.elim⟩
/-- in its place, or at the end -/
def putD {κ : Type} [DecidableEq κ] (kvs : List (κ × D)) (k : κ) (d : D) : List (κ × D) := if (kvs.any fun p => decide (p.1 = k)) = true then kvs.map (fun p => if p.1 = k then (p.1, d) else p) else kvs ++ [(k, d)]
theorem putD_rep {κ : Type} [DecidableEq κ] {K : PySem.W.Frag} {rho : List Addr} {H : Hp} {kvs : List (κ × D)} {ws : List (κ × V)} {k : κ} {d : D} {v : V} (r : RepKV K rho H kvs ws) (rv : Rep K rho H d v) : RepKV K rho H (putD kvs k d) (putK ws k v) := by
  have ea : (kvs.any fun p => decide (p.1 = k)) = (ws.any fun p => decide (p.1 = k)) := by
    have e1 : (kvs.any fun p => decide (p.1 = k)) = (kvs.map (·.1)).any fun x => decide (x = k) := by rw [List.any_map]; rfl
    have e2 : (ws.any fun p => decide (p.1 = k)) = (ws.map (·.1)).any fun x => decide (x = k) := by rw [List.any_map]; rfl
    rw [e1, e2, r.1]
  unfold putD putK
  rw [ea]
  split
  · clear ea
    have : ∀ (kvs : List (κ × D)) (ws : List (κ × V)), RepKV K rho H kvs ws → RepKV K rho H (kvs.map fun p => if p.1 = k then (p.1, d) else p) (ws.map fun p => if p.1 = k then (p.1, v) else p) := by
      intro kvs
      induction kvs with
      | nil => intro ws r; cases ws with
        | nil => exact ⟨rfl, Reps.nil⟩
        | cons _ _ => have := r.1; simp at this
      | cons p kvs ih =>
        intro ws r
        cases ws with
        | nil => have := r.1; simp at this
        | cons q ws =>
          obtain ⟨h1, h2⟩ := r
          simp only [List.map_cons, List.cons.injEq] at h1
          simp only [List.map_cons, Reps] at h2
          obtain ⟨x, xs, e, r1, r2⟩ := h2
          cases e
          have := ih ws ⟨h1.2, r2⟩
          obtain ⟨p1, p2⟩ := p
          obtain ⟨q1, q2⟩ := q
          simp only at h1 r1
          obtain ⟨h1a, h1b⟩ := h1
          subst h1a
          by_cases hk : p1 = k
          · simp only [List.map_cons, if_pos hk]
            exact ⟨by simp only [List.map_cons]; rw [this.1], by simp only [List.map_cons]; exact Reps.cons rv this.2⟩
          · simp only [List.map_cons, if_neg hk]
            exact ⟨by simp only [List.map_cons]; rw [this.1], by simp only [List.map_cons]; exact Reps.cons r1 this.2⟩
    exact this kvs ws r
  · exact ⟨by rw [List.map_append, List.map_append, r.1]; rfl, by rw [List.map_append, List.map_append]; exact r.2.append (Reps.cons rv Reps.nil)⟩
def eSetd (o k z : EvE) : EvE := fun eta M => (o eta M).bind fun x M1 => if isDic x M1 = true then (k eta M1).bind fun y M2 => (z eta M2).bind fun d M3 => (match x with
  | .ref n => (match M3[n]?, keyK y with
    | some (.dicK kvs), some k => if kvs.length < cap then (match findK kvs k with
        | some e => .ok e M3
        | none => .ok d (M3.set n (.dicK (putD kvs k d)))) else .bad
    | _, _ => .bad)
  | _ => .bad) else .bad
theorem ev_setd {fo fk fz : EvE} {o e f : Expr} {apos cpos : Pos} (ho : PEv G X W fo o) (he : PEv G X W fk e) (hf : PEv G X W fz f) (m : M2 X o "setdefault" apos e f cpos := by exact ⟨rfl, rfl, rfl, rfl⟩) : PEv G X W (eSetd fo fk fz) (.Call (.Attribute o "setdefault" apos) [e, f] [] cpos) :=
  PE.weak (pe_dsetd ho he hf m) fun σ H Q ⟨eta, M, rho, V, S, P⟩ => ⟨eta, M, rho, V, S, P.bind.imp fun r1 H1 x M1 e1 S1 P1 v rv => by
    split at P1
    · rename_i hd
      obtain ⟨a, rfl, da⟩ := isDic_rep S1 hd rv
      refine ⟨a, rfl, da, eta, M1, r1, V.mono e1, S1, P1.bind.imp fun r2 H2 y M2 e2 S2 P2 w rw' => ⟨eta, M2, r2, (V.mono e1).mono e2, S2, P2.bind.imp fun r3 H3 z M3 e3 S3 P3 u ru => ?_⟩⟩
      have rx3 := Rep.mono e3 _ _ (Rep.mono e2 _ _ rv)
      have ry3 := Rep.mono e3 _ _ rw'
      cases x <;> simp only at P3 <;> try exact P3.elim
      obtain ⟨a', e', ha⟩ := rep_ref rx3
      cases e'
      split at P3
      · rename_i kvs k hm hk
        obtain ⟨ws, g1, g2⟩ := S3.at_ _ a _ ha hm
        split at P3
        · rename_i hl
          have el := g2.2.length
          simp only [List.length_map] at el
          refine ⟨ws, k, g1, keyK_rep hk ry3, by rw [el, ← cap_eq]; exact hl, fun v' hv' => ?_, fun hn => ?_⟩
          · rcases findK_val g2 k with ⟨a1, a2⟩ | ⟨d', v2, a1, a2, a3⟩
            · rw [a2] at hv'; cases hv'
            · rw [a2] at hv'; cases hv'
              rw [a1] at P3
              exact P3.now S3 _ a3
          · rcases findK_val g2 k with ⟨a1, a2⟩ | ⟨d', v2, a1, a2, a3⟩
            · rw [a1] at P3
              have E : Ext r3 H3 r3 (upd H3 a (.dK (putK ws k u))) := Ext.write (by rw [g1]; trivial)
              exact P3 r3 _ E (S3.write ha hm rfl rfl ⟨_, upd_same, (putD_rep g2 ru).mono E⟩) _ (Rep.mono E _ _ ru)
            · rw [a2] at hn; cases hn
        · exact P3.elim
      · exact P3.elim
    · exact P1.elim⟩

/-! ### stores to subscripts -/
def setD (x y v : D) (M : Store) : Out Unit := match x with
  | .ref n => (match M[n]? with
    | some (.lst ds) => (match y with
      | .int i => (match ixN ds.length i with
        | some j => .ok () (M.set n (.lst (ds.set j v)))
        | none => .bad)
      | _ => .bad)
    | some (.dicK kvs) => (match keyK y with
      | some k => if kvs.length < cap then .ok () (M.set n (.dicK (putD kvs k v))) else .bad
      | none => .bad)
    | some (.dicT kvs) => (match keyT y with
      | some k => if kvs.length < cap then .ok () (M.set n (.dicT (putD kvs k v))) else .bad
      | none => .bad)
    | _ => .bad)
  | _ => .bad
def rSetA : V → V → V → Hp → (Hp → Prop) → Prop := fun o i v H Q => rSetL o i v H Q ∨ ∃ a H', o = .ref a ∧ DPut H a i v H' ∧ Q H'
theorem set_all (hu : X.A.units + 1 < cLine) : PSet X rSetA := by
  intro pins s σ H o i v ov iv u Q I ro ri rv h
  rcases h with h | ⟨a, H', ea, g, q⟩
  · exact set_list pins s σ H o i v ov iv u Q I ro ri rv h
  · subst ea
    obtain rfl : ov = Value.ref a := ro
    exact d_setItem hu I g ri rv fun s' I' => ⟨H', I', q⟩
def sSet (o i f : EvE) : EvS := fun eta M => OutS.bindE ((f eta M).bind fun v M1 => (o eta M1).bind fun x M2 => (i eta M2).bind fun y M3 => setD x y v M3) eta fun _ M4 => .nx eta M4
theorem sv_setIx {fo fi f : EvE} {o i e : Expr} {p pos : Pos} (hu : X.A.units + 1 < cLine) (he : PEv G X W f e) (ho : PEv G X W fo o) (hi : PEv G X W fi i)
    (hs : swapsWithSole [.Subscript o i p] e pos.line X.env = pure false := by rfl) (hw : swappedStores [.Subscript o i p] e X.env = pure none := by rfl) (h1 : (assignEach [.Subscript o i p] X.env).map (·.2) = [assign (.Subscript o i p) X.env] := by rfl)
    (ha : ∀ v, assign (.Subscript o i p) X.env v = (do
      let ov ← holding [v] (eval o X.env)
      let iv ← holding [v, ov] (eval i X.env)
      standAt p
      holding [v, ov, iv] (setItem ov iv v)
      release [v, ov, iv] []) := by intro _; rfl) : PSv G X W (sSet fo fi f) (.Assign [.Subscript o i p] e pos) :=
  PS.weak (ps_asg he (pg_sub ho hi (set_all hu) ha) hs hw h1) fun E σ H ⟨eta, M, rho, V, S, P⟩ => by
    refine ⟨eta, M, rho, V, S, (P.bindE V).bind.imp fun r1 H1 d M1 e1 S1 P1 v rv => ⟨eta, M1, r1, V.mono e1, S1, P1.bind.imp fun r2 H2 x M2 e2 S2 P2 ov ro => ⟨eta, M2, r2, (V.mono e1).mono e2, S2, P2.bind.imp fun r3 H3 y M3 e3 S3 P3 iv ri => ?_⟩⟩⟩
    have V3 := ((V.mono e1).mono e2).mono e3
    have rv3 := Rep.mono e3 _ _ (Rep.mono e2 _ _ rv)
    have ro3 := Rep.mono e3 _ _ ro
    cases x <;> simp only [setD] at P3 <;> try exact P3.elim
    obtain ⟨a, rfl, ha⟩ := rep_ref ro3
    split at P3
    · rename_i ds hm
      obtain ⟨ws, g1, g2⟩ := S3.at_ _ a _ ha hm
      split at P3
      · rename_i k
        split at P3
        · rename_i j hj
          cases rep_int ri
          have E0 : Ext r3 H3 r3 (upd H3 a (.lst (ws.set j v))) := Ext.write (by rw [g1]; trivial)
          exact .inl ⟨a, ws, k, j, rfl, rfl, g1, by rw [g2.length]; exact hj, P3 r3 _ E0 (S3.write ha hm rfl rfl ⟨_, upd_same, Reps.mono E0 _ _ (g2.set j rv3)⟩) r3 _ σ (Ext.refl _ _) (S3.write ha hm rfl rfl ⟨_, upd_same, Reps.mono E0 _ _ (g2.set j rv3)⟩) (V3.mono E0)⟩
        · exact P3.elim
      · exact P3.elim
    · rename_i kvs hm
      obtain ⟨ws, g1, g2⟩ := S3.at_ _ a _ ha hm
      split at P3
      · rename_i k hk
        split at P3
        · rename_i hl
          have el := g2.2.length
          simp only [List.length_map] at el
          have hw := keyK_rep hk ri
          subst hw
          have E0 : Ext r3 H3 r3 (upd H3 a (.dK (putK ws k v))) := Ext.write (by rw [g1]; trivial)
          have S4 := S3.write ha hm (m' := .dicK (putD kvs k d)) rfl rfl ⟨_, upd_same, (putD_rep g2 rv3).mono E0⟩
          exact .inr ⟨a, _, rfl, DPut.k g1 (by rw [el, ← cap_eq]; exact hl), P3 r3 _ E0 S4 r3 _ σ (Ext.refl _ _) S4 (V3.mono E0)⟩
        · exact P3.elim
      · exact P3.elim
    · rename_i kvs hm
      obtain ⟨ws, g1, g2⟩ := S3.at_ _ a _ ha hm
      split at P3
      · rename_i k hk
        split at P3
        · rename_i hl
          have el := g2.2.length
          simp only [List.length_map] at el
          obtain ⟨b, rfl, hb⟩ := keyT_rep hk ri
          have E0 : Ext r3 H3 r3 (upd H3 a (.dT (putK ws k v))) := Ext.write (by rw [g1]; trivial)
          have S4 := S3.write ha hm (m' := .dicT (putD kvs k d)) rfl rfl ⟨_, upd_same, (putD_rep g2 rv3).mono E0⟩
          exact .inr ⟨a, _, rfl, DPut.t g1 hb (by rw [el, ← cap_eq]; exact hl), P3 r3 _ E0 S4 r3 _ σ (Ext.refl _ _) S4 (V3.mono E0)⟩
        · exact P3.elim
      · exact P3.elim
    · exact P3.elim

/-! ### dict displays -/
def eDicK : EvE := fun _ M => .ok (.ref M.length) (M ++ [.dicK []])
def eDicT : EvE := fun _ M => .ok (.ref M.length) (M ++ [.dicT []])
theorem new_obj {σ : St} {rho : List Addr} {H : Hp} {M : Store} {Q : VK} {m : MO} {u : HO} {p : Addr} (S : StR G.K G.T rho H M) (hp : H p = none) (hm : ∀ r' H', Ext rho H r' H' → H' p = some u → RepO G.K G.T r' H' p m)
    (P : Post G W σ rho H (GoodD G.K Q) (.ok (.ref M.length) (M ++ [m]))) : Q (.ref p) (upd H p u) := by
  have E : Ext rho H (rho ++ [p]) (upd H p u) := (Ext.laid hp).trans Ext.grow
  refine P (rho ++ [p]) _ E (S.alloc hp (hm _ _ E upd_same)) (.ref p) ?_
  simp only [Rep]
  exact ⟨p, rfl, by rw [← S.len, List.getElem?_append_right (Nat.le_refl _)]; simp⟩
theorem ev_dicK {pos : Pos} : PEv G X W eDicK (.Dict [] [] pos) :=
  PE.weak pe_dnewK fun σ H Q ⟨eta, M, rho, V, S, P⟩ p hp => new_obj (m := .dicK []) S hp (fun _ _ _ h => ⟨[], h, rfl, Reps.nil⟩) P
theorem ev_dicT {pos : Pos} : PEv G X W eDicT (.Dict [] [] pos) :=
  PE.weak pe_dnewT fun σ H Q ⟨eta, M, rho, V, S, P⟩ p hp => new_obj (m := .dicT []) S hp (fun _ _ _ h => ⟨[], h, rfl, Reps.nil⟩) P
abbrev EvP := Env → Store → Out (List (D × D))
def pNil : EvP := fun _ M => .ok [] M
def pCons (k v : EvE) (r : EvP) : EvP := fun eta M => (k eta M).bind fun x M1 => (v eta M1).bind fun y M2 => (r eta M2).bind fun ps M3 => .ok ((x, y) :: ps) M3
def keysOf : List (D × D) → Option (List (Key × D))
  | [] => some []
  | (x, y) :: r => match keyK x, keysOf r with
    | some k, some ks => some ((k, y) :: ks)
    | _, _ => none
def mergeD (kvs more : List (Key × D)) : List (Key × D) := more.foldl (fun acc kv => putD acc kv.1 kv.2) kvs
def eDict (r : EvP) : EvE := fun eta M => (r eta (M ++ [.dicK []])).bind fun ps M2 => match M2[M.length]?, keysOf ps with
  | some (.dicK []), some kvs => if kvs.length ≤ 15 then .ok (.ref M.length) (M2.set M.length (.dicK (mergeD [] kvs))) else .bad
  | _, _ => .bad
/-- keys and values as the display has them -/
structure PPv (G : Gd) (X : Cx) (W : WX) (f : EvP) (pos : Pos) (ks : List (Option Expr)) (vs : List Expr) (trs : List (TE × TE)) : Prop where
  pp : PPs X pos ks vs trs
  so : ∀ (σ : St) (rho : List Addr) (H : Hp) (eta : Env) (M : Store) (Q : List (V × V) → Hp → Prop), EnvR G.K rho H eta σ → StR G.K G.T rho H M →
    Post G W σ rho H (fun r' H' ps _ => ∀ xs : List (V × V), (xs.length = ps.length ∧ ∀ (i : Nat) (x y : D), ps[i]? = some (x, y) → ∃ v w, xs[i]? = some (v, w) ∧ Rep G.K r' H' x v ∧ Rep G.K r' H' y w) → Q xs H') (f eta M) → tPairs trs σ H Q
theorem pv_nil {pos : Pos} : PPv G X W pNil pos [] [] [] := ⟨pps_nil, fun σ rho H eta M Q V S P => P.now S [] ⟨rfl, fun i x y h => by simp at h⟩⟩
theorem pv_cons {pos : Pos} {k v : Expr} {ks : List (Option Expr)} {vs : List Expr} {trs : List (TE × TE)} {fk fv : EvE} {r : EvP} (hk : PEv G X W fk k) (hv : PEv G X W fv v) (hr : PPv G X W r pos ks vs trs) :
    PPv G X W (pCons fk fv r) pos (some k :: ks) (v :: vs) ((tE G W fk, tE G W fv) :: trs) :=
  ⟨pps_cons hk hv hr.pp, fun σ rho H eta M Q V S P => ⟨eta, M, rho, V, S, P.bind.imp fun r1 H1 x M1 e1 S1 P1 vx rx => ⟨eta, M1, r1, V.mono e1, S1, P1.bind.imp fun r2 H2 y M2 e2 S2 P2 vy ry =>
    hr.so σ r2 H2 eta M2 _ ((V.mono e1).mono e2) S2 (P2.bind.imp fun r3 H3 ps M3 e3 S3 P3 xs hx => P3.now S3 _ ⟨by simp [hx.1], fun i a b h => by
      cases i with
      | zero =>
        simp only [List.getElem?_cons_zero, Option.some.injEq, Prod.mk.injEq] at h
        obtain ⟨rfl, rfl⟩ := h
        exact ⟨vx, vy, rfl, Rep.mono e3 _ _ (Rep.mono e2 _ _ rx), Rep.mono e3 _ _ ry⟩
      | succ i =>
        obtain ⟨a', b', h1, h2, h3⟩ := hx.2 i a b (by simpa using h)
        exact ⟨a', b', by simpa using h1, h2, h3⟩⟩)⟩⟩⟩
theorem keysOf_rep {K : PySem.W.Frag} {rho : List Addr} {H : Hp} : ∀ {ps : List (D × D)} {kvs : List (Key × D)} {xs : List (V × V)}, keysOf ps = some kvs → (xs.length = ps.length ∧ ∀ (i : Nat) (x y : D), ps[i]? = some (x, y) → ∃ v w, xs[i]? = some (v, w) ∧ Rep K rho H x v ∧ Rep K rho H y w) →
    ∃ ws : List (Key × V), xs = ws.map (fun kv => (kV kv.1, kv.2)) ∧ RepKV K rho H kvs ws
  | [], kvs, xs, h, hx => by
    simp only [keysOf, Option.some.injEq] at h
    subst h
    exact ⟨[], List.eq_nil_of_length_eq_zero hx.1, rfl, Reps.nil⟩
  | (x, y) :: r, kvs, xs, h, hx => by
    simp only [keysOf] at h
    split at h
    · rename_i k ks h1 h2
      simp only [Option.some.injEq] at h
      subst h
      cases xs with
      | nil => have := hx.1; simp at this
      | cons q xs =>
        obtain ⟨v, w, e, r1, r2⟩ := hx.2 0 x y rfl
        simp only [List.getElem?_cons_zero, Option.some.injEq] at e
        subst e
        obtain ⟨ws, e1, e2⟩ := keysOf_rep (xs := xs) h2 ⟨by have := hx.1; simpa using this, fun i a b hh => by
          obtain ⟨a', b', g1, g2, g3⟩ := hx.2 (i + 1) a b (by simpa using hh)
          exact ⟨a', b', by simpa using g1, g2, g3⟩⟩
        refine ⟨(k, w) :: ws, ?_, ?_, ?_⟩
        · rw [e1, keyK_rep h1 r1]; rfl
        · simp only [List.map_cons]; rw [e2.1]
        · simp only [List.map_cons]; exact Reps.cons r2 e2.2
    · cases h
theorem mergeD_rep {K : PySem.W.Frag} {rho : List Addr} {H : Hp} : ∀ {more : List (Key × D)} {ws : List (Key × V)} {kvs : List (Key × D)} {vs : List (Key × V)}, RepKV K rho H more ws → RepKV K rho H kvs vs → RepKV K rho H (mergeD kvs more) (mergeK vs ws)
  | [], ws, kvs, vs, r, r0 => by
    cases ws with
    | nil => exact r0
    | cons _ _ => have := r.1; simp at this
  | (k, d) :: more, ws, kvs, vs, r, r0 => by
    cases ws with
    | nil => have := r.1; simp at this
    | cons q ws =>
      obtain ⟨q1, q2⟩ := q
      obtain ⟨h1, h2⟩ := r
      simp only [List.map_cons, List.cons.injEq] at h1
      simp only [List.map_cons, Reps] at h2
      obtain ⟨x, xs, e, r1, r2⟩ := h2
      cases e
      obtain ⟨h1a, h1b⟩ := h1
      subst h1a
      exact mergeD_rep (more := more) (ws := ws) ⟨h1b, r2⟩ (putD_rep r0 r1)
theorem ev_dict {f : EvP} {pos : Pos} {keys : List (Option Expr)} {values : List Expr} {trs : List (TE × TE)} (h : PPv G X W f pos keys values trs) (hall : keys.all (·.isSome) = true := by rfl) (hl : keys.length = values.length := by rfl) (h0 : keys ≠ [] := by exact List.cons_ne_nil _ _) (h15 : keys.length ≤ 15 := by decide) :
    PEv G X W (eDict f) (.Dict keys values pos) :=
  PE.weak (pe_disp h.pp hall hl h0 h15) fun σ H Q ⟨eta, M, rho, V, S, P⟩ p hp => by
    have E0 : Ext rho H (rho ++ [p]) (upd H p (.dK [])) := (Ext.laid hp).trans Ext.grow
    have S0 : StR G.K G.T (rho ++ [p]) (upd H p (.dK [])) (M ++ [.dicK []]) := S.alloc hp ⟨[], upd_same, rfl, Reps.nil⟩
    have hpn : (rho ++ [p])[M.length]? = some p := by rw [← S.len, List.getElem?_append_right (Nat.le_refl _)]; simp
    have P0 : Post G W σ (rho ++ [p]) (upd H p (.dK [])) (GoodD G.K Q) (eDict f eta M) := P.ext E0
    unfold eDict at P0
    refine h.so σ _ _ eta _ _ (V.mono E0) S0 (P0.bind.imp fun r1 H1 ps M1 e1 S1 P1 xs hx => ?_)
    split at P1
    · rename_i kvs hm hk
      split at P1
      · rename_i h15
        obtain ⟨ws, e2, e3⟩ := keysOf_rep hk hx
        have ha := e1.get hpn
        obtain ⟨vs, g1, g2⟩ := S1.at_ _ p _ ha hm
        have ev : vs = [] := by
          have := g2.2.length
          simp at this
          exact this
        subst ev
        have el : ws.length = kvs.length := by
          have := e3.2.length
          simpa using this
        have E1 : Ext r1 H1 r1 (upd H1 p (.dK (mergeK [] ws))) := Ext.write (by rw [g1]; trivial)
        refine ⟨g1, ws, e2, by rw [el]; exact h15, P1 r1 _ E1 (S1.write ha hm rfl rfl ⟨_, upd_same, (mergeD_rep e3 ⟨rfl, Reps.nil⟩).mono E1⟩) (.ref p) ?_⟩
        simp only [Rep]
        exact ⟨p, rfl, ha⟩
      · exact P1.elim
    · exact P1.elim
end
end Ev

/-! Ev, part K: defs, their table by levels, calls. -/
namespace Ev
open PySem L2
open PyProof.Rows (envOfC)

/-! ### what a value and an object speak of -/
mutual
def D.low (k : Nat) : D → Bool
  | .ref n => decide (n < k)
  | .tup ds => lowL k ds
  | .ktp ds => lowL k ds
  | _ => true
def lowL (k : Nat) : List D → Bool
  | [] => true
  | d :: ds => d.low k && lowL k ds
end
def MO.low (k : Nat) : MO → Bool
  | .lst ds => lowL k ds
  | .frz ds => lowL k ds
  | .dicK kvs => lowL k (kvs.map (·.2))
  | .dicT kvs => lowL k (kvs.map (·.2))
  | .ins _ fs => lowL k (fs.map (·.2))
mutual
def D.same : D → D → Bool
  | .non, .non => true
  | .bl a, .bl b => a == b
  | .int a, .int b => a == b
  | .str a, .str b => decide (a = b)
  | .tup as, .tup bs => sameL as bs
  | .ref a, .ref b => a == b
  | .cst a, .cst b => decide (a = b)
  | .ktp as, .ktp bs => sameL as bs
  | _, _ => false
def sameL : List D → List D → Bool
  | [], [] => true
  | a :: as, b :: bs => a.same b && sameL as bs
  | _, _ => false
end
mutual
theorem same_eq : ∀ (a b : D), a.same b = true → a = b
  | .non, b, h => by cases b <;> simp [D.same] at h ⊢
  | .bl a, b, h => by cases b <;> simp [D.same] at h ⊢; exact h
  | .int a, b, h => by cases b <;> simp [D.same] at h ⊢; exact h
  | .str a, b, h => by cases b <;> simp [D.same] at h ⊢; exact h
  | .ref a, b, h => by cases b <;> simp [D.same] at h ⊢; exact h
  | .cst a, b, h => by cases b <;> simp [D.same] at h ⊢; exact h
  | .tup as, b, h => by cases b <;> simp only [D.same, Bool.false_eq_true] at h; exact congrArg _ (sameL_eq as _ h)
  | .ktp as, b, h => by cases b <;> simp only [D.same, Bool.false_eq_true] at h; exact congrArg _ (sameL_eq as _ h)
theorem sameL_eq : ∀ (as bs : List D), sameL as bs = true → as = bs
  | [], bs, h => by cases bs <;> simp [sameL] at h ⊢
  | a :: as, bs, h => by
    cases bs with
    | nil => simp [sameL] at h
    | cons b bs =>
      simp only [sameL, Bool.and_eq_true] at h
      rw [same_eq a b h.1, sameL_eq as bs h.2]
end
mutual
theorem same_refl : ∀ a : D, a.same a = true
  | .non => rfl
  | .bl a => by simp [D.same]
  | .int a => by simp [D.same]
  | .str a => by simp [D.same]
  | .ref a => by simp [D.same]
  | .cst a => by simp [D.same]
  | .tup as => by simp only [D.same]; exact sameL_refl as
  | .ktp as => by simp only [D.same]; exact sameL_refl as
theorem sameL_refl : ∀ as : List D, sameL as as = true
  | [] => rfl
  | a :: as => by simp only [sameL, same_refl a, sameL_refl as, Bool.and_self]
end
def MO.same : MO → MO → Bool
  | .lst a, .lst b => sameL a b
  | .frz a, .frz b => sameL a b
  | .dicK a, .dicK b => decide (a.map (·.1) = b.map (·.1)) && sameL (a.map (·.2)) (b.map (·.2))
  | .dicT a, .dicT b => decide (a.map (·.1) = b.map (·.1)) && sameL (a.map (·.2)) (b.map (·.2))
  | .ins c a, .ins d b => (c == d) && (decide (a.map (·.1) = b.map (·.1)) && sameL (a.map (·.2)) (b.map (·.2)))
  | _, _ => false
theorem zip_eq {κ : Type} : ∀ {a b : List (κ × D)}, a.map (·.1) = b.map (·.1) → a.map (·.2) = b.map (·.2) → a = b
  | [], b, h, _ => by cases b with
    | nil => rfl
    | cons _ _ => simp at h
  | (x, y) :: a, b, h, h' => by
    cases b with
    | nil => simp at h
    | cons q b =>
      obtain ⟨u, v⟩ := q
      simp only [List.map_cons, List.cons.injEq] at h h'
      obtain ⟨rfl, h2⟩ := h
      obtain ⟨rfl, h3⟩ := h'
      rw [zip_eq h2 h3]
theorem MO.same_eq {a b : MO} (h : a.same b = true) : a = b := by
  cases a <;> cases b <;> simp only [MO.same, Bool.and_eq_true, decide_eq_true_eq, Bool.false_eq_true] at h
  · exact congrArg _ (sameL_eq _ _ h)
  · exact congrArg _ (sameL_eq _ _ h)
  · exact congrArg _ (zip_eq h.1 (sameL_eq _ _ h.2))
  · exact congrArg _ (zip_eq h.1 (sameL_eq _ _ h.2))
  · have := zip_eq h.2.1 (sameL_eq _ _ h.2.2)
    have e := eq_of_beq h.1
    subst this; subst e; rfl
theorem MO.same_refl (a : MO) : a.same a = true := by cases a <;> simp [MO.same, sameL_refl]
/-- the old objects speak of old ones alone (those that are as they were do anyhow) -/
def keptOk (k : Nat) : Store → Store → Bool
  | [], _ => true
  | m :: r, o :: s => (o.same m || o.low k) && keptOk k r s
  | _ :: _, [] => false
/-- what a def leaves: its own objects go, but for the one that it hands back -/
def gc (M0 : Store) (d : D) (M : Store) : Out D :=
  if keptOk M0.length M0 M = true then
    if d.low M0.length = true then .ok d (M.take M0.length)
    else (match d with
      | .ref n => (match M[n]? with
        | some (.frz _) => .ok d M
        | some o => if o.low M0.length = true then .ok (.ref M0.length) (M.take M0.length ++ [o]) else .ok d M
        | none => .ok d M)
      | _ => .ok d M)
  else .ok d M

section
variable {G : Gd} {K : PySem.W.Frag} {T rho rho' : List Addr} {H H' : Hp}
mutual
theorem Rep.low : ∀ (d : D) (v : V), Rep K rho H d v → d.low rho.length = true
  | .non, _, _ => rfl
  | .bl _, _, _ => rfl
  | .int _, _, _ => rfl
  | .str _, _, _ => rfl
  | .cst _, _, _ => rfl
  | .ref n, v, h => by
    simp only [Rep] at h
    obtain ⟨a, _, h2⟩ := h
    simp only [D.low, decide_eq_true_eq]
    exact (List.getElem?_eq_some_iff.mp h2).1
  | .tup ds, v, h => by
    simp only [Rep] at h
    obtain ⟨a, vs, _, _, h3⟩ := h
    simp only [D.low]
    exact Reps.low ds vs h3
  | .ktp ds, v, h => by
    simp only [Rep] at h
    obtain ⟨a, vs, _, _, h3⟩ := h
    simp only [D.low]
    exact Reps.low ds vs h3
theorem Reps.low : ∀ (ds : List D) (vs : List V), Reps K rho H ds vs → lowL rho.length ds = true
  | [], _, _ => rfl
  | d :: ds, vs, h => by
    simp only [Reps] at h
    obtain ⟨v, ws, _, h1, h2⟩ := h
    simp only [lowL, Bool.and_eq_true]
    exact ⟨Rep.low d v h1, Reps.low ds ws h2⟩
end
mutual
/-- fewer places are enough -/
theorem Rep.less (pre : rho <+: rho') : ∀ (d : D) (v : V), d.low rho.length = true → Rep K rho' H d v → Rep K rho H d v
  | .non, _, _, h => by simpa only [Rep] using h
  | .bl _, _, _, h => by simpa only [Rep] using h
  | .int _, _, _, h => by simpa only [Rep] using h
  | .str _, _, _, h => by simpa only [Rep] using h
  | .cst _, _, _, h => by simpa only [Rep] using h
  | .ref n, v, hb, h => by
    simp only [D.low, decide_eq_true_eq] at hb
    simp only [Rep] at h ⊢
    obtain ⟨a, h1, h2⟩ := h
    obtain ⟨t, rfl⟩ := pre
    rw [List.getElem?_append_left hb] at h2
    exact ⟨a, h1, h2⟩
  | .tup ds, v, hb, h => by
    simp only [D.low] at hb
    simp only [Rep] at h ⊢
    obtain ⟨a, vs, h1, h2, h3⟩ := h
    exact ⟨a, vs, h1, h2, Reps.less pre ds vs hb h3⟩
  | .ktp ds, v, hb, h => by
    simp only [D.low] at hb
    simp only [Rep] at h ⊢
    obtain ⟨a, vs, h1, h2, h3⟩ := h
    exact ⟨a, vs, h1, h2, Reps.less pre ds vs hb h3⟩
theorem Reps.less (pre : rho <+: rho') : ∀ (ds : List D) (vs : List V), lowL rho.length ds = true → Reps K rho' H ds vs → Reps K rho H ds vs
  | [], _, _, h => by simpa only [Reps] using h
  | d :: ds, vs, hb, h => by
    simp only [lowL, Bool.and_eq_true] at hb
    simp only [Reps] at h ⊢
    obtain ⟨v, ws, h1, h2, h3⟩ := h
    exact ⟨v, ws, h1, Rep.less pre d v hb.1 h2, Reps.less pre ds ws hb.2 h3⟩
end
theorem RepO.low {a : Addr} {o : MO} (h : RepO K T rho H a o) : o.low rho.length = true := by
  cases o with
  | lst ds => obtain ⟨vs, _, h2⟩ := h; exact Reps.low _ _ h2
  | frz ds => obtain ⟨vs, _, h2⟩ := h; exact Reps.low _ _ h2
  | dicK ds => obtain ⟨vs, _, h2⟩ := h; exact Reps.low _ _ h2.2
  | dicT ds => obtain ⟨vs, _, h2⟩ := h; exact Reps.low _ _ h2.2
  | ins c ds => obtain ⟨C, dx, vs, _, _, h2⟩ := h; exact Reps.low _ _ h2.2
theorem RepO.less (pre : rho <+: rho') {a : Addr} {o : MO} (hb : o.low rho.length = true) (h : RepO K T rho' H a o) : RepO K T rho H a o := by
  cases o with
  | lst ds => obtain ⟨vs, h1, h2⟩ := h; exact ⟨vs, h1, Reps.less pre _ _ hb h2⟩
  | frz ds => obtain ⟨vs, h1, h2⟩ := h; exact ⟨vs, h1, Reps.less pre _ _ hb h2⟩
  | dicK ds => obtain ⟨vs, h1, h2⟩ := h; exact ⟨vs, h1, h2.1, Reps.less pre _ _ hb h2.2⟩
  | dicT ds => obtain ⟨vs, h1, h2⟩ := h; exact ⟨vs, h1, h2.1, Reps.less pre _ _ hb h2.2⟩
  | ins c ds => obtain ⟨C, dx, vs, h0, h1, h2⟩ := h; exact ⟨C, dx, vs, h0, h1, h2.1, Reps.less pre _ _ hb h2.2⟩
theorem keptOk_at {k : Nat} : ∀ {M0 M : Store}, keptOk k M0 M = true → M0.length ≤ M.length ∧ ∀ (i : Nat) (m : MO), M0[i]? = some m → ∃ o : MO, M[i]? = some o ∧ (o = m ∨ o.low k = true)
  | [], M, _ => ⟨Nat.zero_le _, fun i m h => by simp at h⟩
  | m :: r, [], h => by simp [keptOk] at h
  | m :: r, o :: s, h => by
    simp only [keptOk, Bool.and_eq_true, Bool.or_eq_true] at h
    obtain ⟨h1, h2⟩ := keptOk_at h.2
    refine ⟨by simpa using h1, fun i x hx => ?_⟩
    cases i with
    | zero =>
      simp at hx; subst hx
      exact ⟨o, rfl, h.1.imp (fun z => MO.same_eq z) fun z => z⟩
    | succ i =>
      obtain ⟨p, h3, h4⟩ := h2 i x (by simpa using hx)
      exact ⟨p, by simpa using h3, h4⟩
/-- the old places alone -/
theorem StR.cut {M0 M : Store} (S0 : StR K T rho H M0) (S : StR K T rho' H' M) (e : Ext rho H rho' H') (h : keptOk M0.length M0 M = true) : StR K T rho H' (M.take M0.length) := by
  obtain ⟨hl, ha⟩ := keptOk_at h
  have at0 : ∀ {i : Nat} {o : MO}, (M.take M0.length)[i]? = some o → i < M0.length ∧ M[i]? = some o := fun {i o} q => by
    have h1 := (List.getElem?_eq_some_iff.mp q).1
    rw [List.length_take] at h1
    have h2 : i < M0.length := by omega
    rw [List.getElem?_take_of_lt h2] at q
    exact ⟨h2, q⟩
  refine ⟨?_, fun i j a o u h1 h2 h3 h4 f1 f2 => ?_, fun i a o h1 h2 => ?_⟩
  · rw [S0.len, List.length_take]; omega
  · exact S.inj i j a o u (e.get h1) (e.get h2) (at0 h3).2 (at0 h4).2 f1 f2
  · obtain ⟨hi, hm⟩ := at0 h2
    have hr := S.at_ i a o (e.get h1) hm
    obtain ⟨m0, hm0⟩ : ∃ m0, M0[i]? = some m0 := ⟨M0[i], List.getElem?_eq_getElem hi⟩
    obtain ⟨o', ho', hb⟩ := ha i m0 hm0
    rw [hm] at ho'; cases ho'
    refine hr.less e.pre ?_
    rcases hb with z | z
    · subst z; exact (S0.at_ i a o h1 hm0).low
    · rw [S0.len]; exact z
theorem Ext.cut (e : Ext rho H rho' H') : Ext rho H rho H' := ⟨List.prefix_refl _, e.tups, e.frzs⟩
theorem gc_rep {M0 M M1 : Store} {d d1 : D} {v : V} (S0 : StR K T rho H M0) (S : StR K T rho' H' M) (e : Ext rho H rho' H') (r : Rep K rho' H' d v) (h : gc M0 d M = .ok d1 M1) :
    ∃ rho1, Ext rho H rho1 H' ∧ StR K T rho1 H' M1 ∧ Rep K rho1 H' d1 v := by
  unfold gc at h
  split at h
  · rename_i hk
    have S1 := StR.cut S0 S e hk
    split at h
    · rename_i hb
      cases h
      exact ⟨rho, e.cut, S1, Rep.less e.pre d v (by rw [S0.len]; exact hb) r⟩
    · rename_i hb
      split at h
      · rename_i n
        have same : ∃ rho1, Ext rho H rho1 H' ∧ StR K T rho1 H' M ∧ Rep K rho1 H' (.ref n) v := ⟨rho', e, S, r⟩
        split at h
        · cases h; exact same
        · rename_i o hnf hm
          split at h
          · rename_i hob
            cases h
            obtain ⟨a, rfl, ha⟩ := rep_ref r
            have ho := S.at_ n a o ha hm
            have hfz : o.isFrz = false := by cases o <;> first | rfl | exact absurd rfl (hnf _)
            have hn : M0.length ≤ n := by
              simp only [D.low, decide_eq_true_eq] at hb
              omega
            have el : (M.take M0.length).length = M0.length := by
              have := S1.len
              rw [S0.len] at this; exact this.symm
            have hkl : rho.length = M0.length := S0.len
            refine ⟨rho ++ [a], e.cut.trans Ext.grow, ⟨by simp [hkl, el], fun i j b p q h1 h2 h3 h4 f1 f2 => ?_, fun i b p h1 h2 => ?_⟩, ?_⟩
            · have sp : ∀ (i : Nat) (b : Addr) (p : MO), (rho ++ [a])[i]? = some b → (M.take M0.length ++ [o])[i]? = some p → (rho[i]? = some b ∧ (M.take M0.length)[i]? = some p ∧ i < M0.length) ∨ (i = M0.length ∧ b = a ∧ p = o) := fun i b p g1 g2 => by
                by_cases hi : i < M0.length
                · rw [List.getElem?_append_left (by omega)] at g1 g2
                  exact .inl ⟨g1, g2, hi⟩
                · have hi' : i = M0.length := by
                    have := (List.getElem?_eq_some_iff.mp g1).1
                    simp at this; omega
                  subst hi'
                  rw [List.getElem?_append_right (by omega), hkl] at g1
                  rw [List.getElem?_append_right (by omega), el] at g2
                  simp at g1 g2
                  exact .inr ⟨rfl, g1.symm, g2.symm⟩
              have up : ∀ (i : Nat) (b : Addr) (p : MO), rho[i]? = some b → (M.take M0.length)[i]? = some p → i < M0.length → b = a → p.isFrz = false → False := fun i b p g1 g2 g3 g4 g5 => by
                subst g4
                rw [List.getElem?_take_of_lt g3] at g2
                have := S.inj i n b p o (e.get g1) ha g2 hm g5 hfz
                omega
              rcases sp i b p h1 h3 with ⟨a1, a2, a3⟩ | ⟨a1, a2, a3⟩ <;> rcases sp j b q h2 h4 with ⟨b1, b2, b3⟩ | ⟨b1, b2, b3⟩
              · exact S1.inj i j b p q a1 b1 a2 b2 f1 f2
              · exact (up i b p a1 a2 a3 b2 f1).elim
              · exact (up j b q b1 b2 b3 a2 f2).elim
              · omega
            · by_cases hi : i < M0.length
              · rw [List.getElem?_append_left (by omega)] at h1 h2
                exact (S1.at_ i b p h1 h2).mono Ext.grow fun _ => rfl
              · have hi' : i = M0.length := by
                  have := (List.getElem?_eq_some_iff.mp h1).1
                  simp at this; omega
                subst hi'
                rw [List.getElem?_append_right (by omega), hkl] at h1
                rw [List.getElem?_append_right (by omega), el] at h2
                simp at h1 h2
                subst h1; subst h2
                exact (ho.less e.pre (by rw [hkl]; exact hob)).mono Ext.grow fun _ => rfl
            · simp only [Rep]
              exact ⟨a, rfl, by rw [List.getElem?_append_right (by omega), hkl]; simp⟩
          · cases h; exact same
        · cases h; exact same
      · cases h; exact ⟨rho', e, S, r⟩
  · cases h; exact ⟨rho', e, S, r⟩
theorem gc_ok (M0 : Store) (d : D) (M : Store) : ∃ d1 M1, gc M0 d M = .ok d1 M1 := by
  unfold gc
  split
  · split
    · exact ⟨_, _, rfl⟩
    · split
      · split
        · exact ⟨_, _, rfl⟩
        · split <;> exact ⟨_, _, rfl⟩
        · exact ⟨_, _, rfl⟩
      · exact ⟨_, _, rfl⟩
  · exact ⟨_, _, rfl⟩
end

/-! ### the table of the defs -/
abbrev Tab := Nat → List D → Store → Out D
structure Fn where
  /-- how many names, how many parameters -/
  nn : Nat
  np : Nat
  body : Tab → EvS
def finS (M0 : Store) : OutS → Out D
  | .rt d M => gc M0 d M
  | .nx _ M => gc M0 .non M
  | .exc x fs _ M => .exc x fs M
  | _ => .bad
def runFn (F : Fn) (T : Tab) (args : List D) (M : Store) : Out D :=
  if args.length = F.np then finS M (F.body T (args.map some ++ List.replicate (F.nn - F.np) none) M) else .bad
def tabOf (P : List Fn) : Nat → Tab
  | 0 => fun _ _ _ => .bad
  | k + 1 => fun i args M => match P[i]? with
    | some F => runFn F (tabOf P k) args M
    | none => .bad
def eCall (T : Tab) (i : Nat) (g : EvL) : EvE := fun eta M => (g eta M).bind fun ds M1 => T i ds M1

/-- what a def promises: what the table says -/
def spT (G : Gd) (t : List D → Store → Out D) : Sp := fun vs H Q E => ∃ M rho ds, StR G.K G.T rho H M ∧ Reps G.K rho H ds vs ∧ Post G (fun c d _ H' => E c d H') [] rho H (GoodD G.K Q) (t ds M)

/-- the def at f keeps its promise where there is room and no repr runs -/
def FG (P : Program) (w : World) (K : PySem.W.Frag) (mg : Str → Option Value) (base : Heap) (k : Nat) (f : Addr) (sp : Sp) : Prop :=
  ∀ (A : Around) (outer : List PySem.Env) (s : Shared) (H : Hp) (us : List Value) (vs : List V) (Q : VK) (E : XK), Room k A → A.guards = some [] → Env0 P w K mg base A outer s H → Vals vs us → sp vs H Q E →
    codeAny (model P w) A (.call (.ref f) ⟨us, []⟩) (CR (L2.CX P w) outer P w H s Q E) s
theorem FG.mono {P : Program} {w : World} {K : PySem.W.Frag} {mg : Str → Option Value} {base : Heap} {j k : Nat} {f : Addr} {sp : Sp} (F : FG P w K mg base j f sp) (h : j ≤ k) : FG P w K mg base k f sp :=
  fun A outer s H us vs Q E hr => F A outer s H us vs Q E (hr.mono h)

section
variable {G : Gd} {X : Cx} {W : WX}
theorem fg_run {pins : List (Addr × Obj)} {σ : St} {H : Hp} {s : Shared} {Q : VK} {us : List Value} {vs : List V} {k : Nat} {f : Addr} {sp : Sp} (F : FG X.prog X.w X.K X.mg X.base k f sp) (hr : Room k X.A) (hgu : X.A.guards = some []) (tk : Takes X W)
    (I : Inv X pins σ H s) (r : Vals vs us) (h : sp vs H Q fun c d H' => W c d σ H') : wpAny (model X.prog X.w) X.A (call (.ref f) us) (EP X pins σ Q) X.xe s :=
  wpAny_call (codeAny_mono (F X.A X.stack s H us vs Q _ hr hgu I.env0 r h) fun res s1 hq => by
    cases res with
    | error er => exact tk er s1 (XE.of_call I (fun _ _ _ z => z) hq)
    | ok fl => cases fl <;> first | exact I.after hq | exact False.elim hq)
theorem ev_call {t : Tab} {i k : Nat} {f : Addr} {g : EvL} {x : Str} {p pos : Pos} {e : Expr} {es : List Expr} (F : FG X.prog X.w X.K X.mg X.base k f (spT G (t i))) (hr : Room k X.A) (hgu : X.A.guards = some []) (tk : Takes X W) (hm : X.mg x = some (.ref f)) (hk : PySem.W.keepIn X.K (.ref f) = true)
    (ha : PLv G X W g (e :: es)) (hg : Gl X x := by rfl) (hdb : (x == ("__debug__" : Str)) = false := by decide) (he : starEach (e :: es) X.env = (false, eval e X.env) :: starEach es X.env := by rfl) (hpl : (backTo pos (starEach es X.env)).any (·.1) = false := by rfl) :
    PEv G X W (eCall t i g) (.Call (.Name x p) (e :: es) [] pos) :=
  ⟨fun pins s σ H Q I ⟨eta, M, rho, V, S, P⟩ => wpAny_Call_Name_kw (ld_glob I hg hm (PySem.W.callWith_K (h₀ := X.base) I.ok.mod.kin hk
    (thn (ha.run pos pins s σ H (fun vs H1 => spT G (t i) vs H1 Q fun c d H' => W c d σ H') I ⟨eta, M, rho, V, S, P.bind.imp fun r1 H1 ds M1 e1 S1 P1 vs rvs => ⟨M1, r1, ds, S1, rvs, by
        cases hq : t i ds M1 with
        | ok d M2 => rw [hq] at P1; exact P1
        | exc x fs M2 => rw [hq] at P1; exact P1
        | bad => rw [hq] at P1; exact P1⟩⟩)
      fun us s1 ⟨vs, H1, I1, r, q⟩ => ⟨I1.kIn, fg_run F hr hgu tk I1 r q⟩) he hpl) hdb)⟩
theorem ev_call0 {t : Tab} {i k : Nat} {f : Addr} {x : Str} {p pos : Pos} (F : FG X.prog X.w X.K X.mg X.base k f (spT G (t i))) (hr : Room k X.A) (hgu : X.A.guards = some []) (tk : Takes X W) (hm : X.mg x = some (.ref f)) (hk : PySem.W.keepIn X.K (.ref f) = true)
    (hg : Gl X x := by rfl) (hdb : (x == ("__debug__" : Str)) = false := by decide) : PEv G X W (eCall t i lNil) (.Call (.Name x p) [] [] pos) :=
  ⟨fun pins s σ H Q I ⟨eta, M, rho, V, S, P⟩ => wpAny_Call_Name_kw (ld_glob I hg hm (PySem.W.callWith_K0 I.kIn hk (fg_run (us := []) F hr hgu tk I .nil ⟨M, rho, [], S, Reps.nil, by
        have P1 : Post G W σ rho H (GoodD G.K Q) (t i [] M) := P
        cases hq : t i [] M with
        | ok d M2 => rw [hq] at P1; exact P1
        | exc x fs M2 => rw [hq] at P1; exact P1
        | bad => rw [hq] at P1; exact P1⟩)) hdb)⟩
end

/-! ### a def by its body -/
/-- the slots at the entry -/
theorem env_start {K : PySem.W.Frag} {rho : List Addr} {H : Hp} {ds : List D} {vs : List V} {N : List Str} {nn : Nat} (r : Reps K rho H ds vs) (hn : N.length = nn) : EnvR K rho H (ds.map some ++ List.replicate (nn - ds.length) none) (L2.start N vs) := by
  have hl := r.length
  refine ⟨by simp [L2.start, hl, hn], fun i d h => ?_⟩
  by_cases hi : i < ds.length
  · rw [List.getElem?_append_left (by simpa using hi), List.getElem?_map] at h
    cases e : ds[i]? with
    | none => rw [e] at h; simp at h
    | some d' =>
      rw [e] at h
      simp at h; subst h
      obtain ⟨v, h1, h2⟩ := r.get e
      refine ⟨v, ?_, h2⟩
      unfold L2.start
      rw [List.getElem?_append_left (by simp; omega), List.getElem?_map, h1]; rfl
  · rw [List.getElem?_append_right (by simpa using hi)] at h
    have := (List.getElem?_eq_some_iff.mp h).2
    simp at this
/-- THE RULE: a def of the text keeps the table's promise, by its body's evaluation -/
theorem fg_of {G : Gd} {P : Program} {w : World} {mg : Str → Option Value} {base : Heap} {k : Nat} {f : Addr} {x qual : Str} {st : Stmt} {fd : FuncData} {N ps : List Str} {F : Fn} {t : Tab} {ti : List D → Store → Out D} (Fu : Fun G.K x qual st f fd) (bi : Binds G.K fd ps []) (S : FnScope N ps (defScope st))
    (hnn : N.length = F.nn) (hnp : ps.length = F.np) (hti : ∀ ds M, ti ds M = runFn F t ds M)
    (hbody : ∀ (cdv : Value) (A : Around) (outer : List PySem.Env) (s : Shared) (H : Hp) (E : XK), Room k (A.deeper (envOfC qual (defScope st) s.heap.objs.size f cdv)) → A.guards = some [] →
      Takes (cxOf (L2.CX P w) P w G.K mg base N qual (defScope st) f cdv A outer s H E) (fun c d _ H' => E c d H') → PassesOwn (model P w) (A.deeper (envOfC qual (defScope st) s.heap.objs.size f cdv)) (envOfC qual (defScope st) s.heap.objs.size f cdv) (cxOf (L2.CX P w) P w G.K mg base N qual (defScope st) f cdv A outer s H E).xe →
      PSsv G (cxOf (L2.CX P w) P w G.K mg base N qual (defScope st) f cdv A outer s H E) (fun c d _ H' => E c d H') (F.body t) (defBody st)) :
    FG P w G.K mg base (k + 1) f (spT G ti) := by
  obtain ⟨oc, od, kV, doc, pm, an, cdv, ct, osl, efd, lk, hcd⟩ := Fu.ex
  subst efd
  intro A outer s H us vs Q E hr hgu e0 rv ⟨M, rho, ds, St0, rs, P0⟩
  rw [hti] at P0
  unfold runFn at P0
  split at P0
  case isFalse => exact P0.elim
  rename_i hlen
  have hvl : vs.length = ps.length := by rw [rs.length, hlen, hnp]
  have hul : (us ++ []).length = ps.length := by rw [List.append_nil, ← rv.length, hvl]
  have kin : G.K.In s.heap := e0.mod.kin.keeps fun b o e => (e0.bs b o e).1
  have lim : s.heap.NoLimit := e0.mod.nolimit.keeps fun b o e => (e0.bs b o e).1
  have bnd := bi s us kin hul
  rw [List.append_nil] at bnd
  have pk : ∀ y ∈ ps.zip us, (defScope st).names.lookup y.1 = some .local ∨ ((defScope st).names.lookup y.1 = some .cell ∧ ((cellsFrom (s.heap.objs.size + 1) (defScope st).names []).lookup y.1).isSome = true) := by
    rintro ⟨n, v⟩ hy
    rcases S.par n (List.of_mem_zip hy).1 with q | q
    · exact .inl q
    · exact .inr ⟨q, PySem.W.cellsFrom_some _ _ _ (.inl q)⟩
  refine codeAny_call_function hr.depth (kin _ _ lk) rfl S.co S.gen rfl (PySem.W.codeRec_of kin hcd) (bnd _ _ _ _ ?_)
  refine wpAny_newFunctionEnv_cells S.kind pk fun env he s1 xx => ?_
  subst he
  refine ⟨lim.keeps xx.toInCall.keep, codeAny_func ?_⟩
  have rm : Room k (A.deeper (envOfC qual (defScope st) s.heap.objs.size f cdv)) := hr.deeper _
  have J : Inv (cxOf (L2.CX P w) P w G.K mg base N qual (defScope st) f cdv A outer s H E) [] (L2.start N vs) H s1 := inv_start S hr.hd e0 hvl rv xx
  have hb := hbody cdv A outer s H E rm hgu (takes_of rfl rfl rfl rfl) (passes_of rfl)
  have hEnv : EnvR G.K rho H (ds.map some ++ List.replicate (F.nn - F.np) none) (L2.start N vs) := by rw [← hlen]; exact env_start rs hnn
  refine wpAny_mono (hb.run [] s1 (L2.start N vs) H { nx := fun _ H' => Q .non H', rt := Q } J ⟨_, M, rho, hEnv, St0, ?_⟩) (fun fl s2 hs => ?_) fun er s2 hs => hs
  · cases e : F.body t (ds.map some ++ List.replicate (F.nn - F.np) none) M with
    | rt d M1 =>
      rw [e] at P0
      intro r1 H1 v e1 S1 R1
      obtain ⟨d1, M2, hg⟩ := gc_ok M d M1
      obtain ⟨r2, e2, S2, R2⟩ := gc_rep St0 S1 e1 R1 hg
      have P1 : Post G (fun c d _ H' => E c d H') [] rho H (GoodD G.K Q) (gc M d M1) := P0
      rw [hg] at P1
      exact P1 r2 H1 e2 S2 v R2
    | nx eta1 M1 =>
      rw [e] at P0
      intro r1 H1 σ1 e1 S1 V1
      obtain ⟨d1, M2, hg⟩ := gc_ok M .non M1
      obtain ⟨r2, e2, S2, R2⟩ := gc_rep (v := .non) St0 S1 e1 (by simp [Rep]) hg
      have P1 : Post G (fun c d _ H' => E c d H') [] rho H (GoodD G.K Q) (gc M .non M1) := P0
      rw [hg] at P1
      exact P1 r2 H1 e2 S2 .non R2
    | bk eta1 M1 => rw [e] at P0; exact P0.elim
    | ct eta1 M1 => rw [e] at P0; exact P0.elim
    | exc x fs eta1 M1 =>
      rw [e] at P0
      exact fun r1 H1 σ1 cls dd e1 S1 V1 X1 => P0 r1 H1 cls dd e1 S1 X1
    | bad => rw [e] at P0; exact P0.elim
  · cases fl with
    | ret u =>
      obtain ⟨v, σ1, H1, J1, r1, q⟩ := hs
      exact ⟨v, H1, J1.os, J1.bare, J1.base, J1.hok, r1, q⟩
    | next =>
      obtain ⟨σ1, H1, J1, q⟩ := hs
      exact ⟨V.non, H1, J1.os, J1.bare, J1.base, J1.hok, rfl, q⟩
    | brk => obtain ⟨_, _, _, q⟩ := hs; exact False.elim q
    | cont => obtain ⟨_, _, _, q⟩ := hs; exact False.elim q
/-- nothing is promised at level 0 -/
theorem fg_zero {G : Gd} {P : Program} {w : World} {mg : Str → Option Value} {base : Heap} {f : Addr} : FG P w G.K mg base 0 f (spT G fun _ _ => .bad) :=
  fun A outer s H us vs Q E _ _ _ _ ⟨M, rho, ds, _, _, q⟩ => q.elim
end Ev

/-! Ev, part L: the law's end. -/
namespace Ev
open PySem PySem.Spec PyProof.Rows L2

theorem reps_ints {K : PySem.W.Frag} {rho : List Addr} {H : Hp} : ∀ ns : List Int, Reps K rho H (ns.map D.int) (ns.map V.int)
  | [] => by simp [Reps]
  | n :: ns => by
    simp only [List.map_cons, Reps]
    exact ⟨_, _, rfl, by simp [Rep], reps_ints ns⟩

theorem law_ev {P : Program} {w : World} {G : Gd} {mg mb : Str → Option Value} {k : Nat} {fa a : Addr} {t : List D → Store → Out D} {s₁ : Shared} {vs : List Value} {ns : List Int}
    (KX : G.K.In s₁.heap) (hns : s₁.heap.Ns mainGlobals mg) (hb : s₁.heap.Ns builtinsNs mb) (hbb : ∀ x : Str, x ≠ "__name__" → mb x = bootBuiltins x) (hlim : s₁.heap.NoLimit) (hg : s₁.gens = #[])
    (ha : s₁.heap.get? a = some { cls := .type "list", data := .seq vs.toArray }) (hi : IntsAre vs ns) (hl : ns.length ≤ sizeLine) (hr : Room k callerA)
    (F : ∀ base : Heap, G.K.In base → base.Ns mainGlobals mg → FG P w G.K mg base k fa (spT G t)) (ht : ∃ M, t [.ref 0] [.frz (ns.map D.int)] = .ok (.bl true) M) :
    codeAny (model P w) callerA (.call (.ref fa) ⟨[.ref a], []⟩) (fun r s' => r = .ok (.ret (.bool true)) ∧ OldK s₁.heap s'.heap ∧ s'.os = s₁.os ∧ AllBare s'.gens) s₁ := by
  have rv := vals_ints hi
  have lenV := hi.length
  have core : ∀ H : Hp, Only H → FrzL G.K H a (ns.map V.int) → HOk P w H s₁.heap → (∀ b, H b ≠ none → b = a) → (H a ≠ none → G.K.lookup a = none) →
      codeAny (model P w) callerA (.call (.ref fa) ⟨[.ref a], []⟩) (fun r s' => r = .ok (.ret (.bool true)) ∧ OldK s₁.heap s'.heap ∧ s'.os = s₁.os ∧ AllBare s'.gens) s₁ := by
    intro H hO hS hok hA hK
    have base_of : ∀ {b : Addr} {o : Obj}, s₁.heap.get? b = some o → H b = none → (hidT s₁.heap H).get? b = some o := fun e n => hidT_get e n
    have noA : ∀ {b : Addr} {o : Obj} {es : Array DictEntry} {ep : Nat}, s₁.heap.get? b = some o → o.data = .dict es ep → H b = none := fun {b o es ep} e dd => by
      cases q : H b with
      | none => rfl
      | some u =>
        have e' : b = a := hA b (by rw [q]; simp)
        subst e'
        rw [ha] at e; cases e
        have d' : Data.seq vs.toArray _ = Data.dict es ep := dd
        cases d'
    have nsK : ∀ {b : Addr} {m : Str → Option Value}, s₁.heap.Ns b m → (hidT s₁.heap H).Ns b m := fun {b m} ⟨o, es, ep, e, dd, r⟩ => ⟨o, es, ep, base_of e (noA e dd), dd, r⟩
    have hKb : G.K.In (hidT s₁.heap H) := fun b o e => base_of (KX b o e) (by
      cases q : H b with
      | none => rfl
      | some u =>
        have e' : b = a := hA b (by rw [q]; simp)
        subst e'
        rw [hK (by rw [q]; simp)] at e; cases e)
    have hM : Mod G.K mg (hidT s₁.heap H) := ⟨hKb, nsK hns, ⟨mb, nsK hb, hbb⟩, let ⟨mc, h1, h2⟩ := hlim; ⟨mc, nsK h1, h2⟩⟩
    have e0 : Env0 P w G.K mg (hidT s₁.heap H) callerA [] s₁ H := ⟨rfl, hM, fun b o e => of_hidT e, Nat.le_of_eq (hidT_size _ _), trivial, fun b hb => absurd (show b ∈ ([] : List Addr) from hb) (by simp), hok, .of_eq hg⟩
    obtain ⟨M, ht⟩ := ht
    have hst : StR G.K G.T [a] H [.frz (ns.map D.int)] := ⟨rfl, fun i j b o u h1 h2 h3 h4 f1 f2 => by
        have hi0 : i = 0 := by
          have := (List.getElem?_eq_some_iff.mp h1).1
          simp at this; exact this
        have hj0 : j = 0 := by
          have := (List.getElem?_eq_some_iff.mp h2).1
          simp at this; exact this
        rw [hi0, hj0], fun i b o h1 h2 => by
        have hi0 : i = 0 := by
          have := (List.getElem?_eq_some_iff.mp h1).1
          simp at this; exact this
        subst hi0
        simp at h1 h2
        subst h1; subst h2
        exact ⟨_, hS, reps_ints ns⟩⟩
    have hsp : spT G t [.ref a] H (fun v _ => v = .bl true) fun _ _ _ => False :=
      ⟨[.frz (ns.map D.int)], [a], [.ref 0], hst, by simp [Reps, Rep], by
        rw [ht]
        exact fun r1 H1 e1 S1 v rv1 => rep_bl rv1⟩
    refine codeAny_mono (F _ hKb (nsK hns) callerA [] s₁ H [.ref a] [.ref a] _ _ hr rfl e0 (.cons rfl .nil) hsp) fun r s' h => ?_
    cases r with
    | error e =>
      obtain ⟨_, _, _, _, _, _, _, _, _, _, _, _, hf⟩ := h
      exact hf.elim
    | ok fl =>
      cases fl with
      | next => exact False.elim h
      | brk => exact False.elim h
      | cont => exact False.elim h
      | ret u =>
        obtain ⟨v, H', os, bare, un, hok', r', q⟩ := h
        have q' : v = .bl true := q
        subst q'
        obtain rfl : u = Value.bool true := r'
        refine ⟨rfl, OldK.of_keep fun b o e => ?_, os, bare⟩
        cases q : H b with
        | none => exact un.keep b o e q (by intro z; exact absurd (show b ∈ ([] : List Addr) from z) (by simp)) (by simp)
        | some u =>
          rcases hO b with z | ⟨ob, xs, z⟩
          · rw [q] at z; cases z
          · have z2 := un.frzs b ob _ z
            obtain ⟨e1, _⟩ := hok b _ z
            obtain ⟨e2, _⟩ := hok' b _ z2
            rw [e] at e1; cases e1
            exact e2
  cases hk : G.K.lookup a with
  | some o =>
    have e := KX a o hk
    rw [ha] at e
    cases e
    refine core (fun _ => none) (fun _ => .inl rfl) (.inr ⟨_, vs.toArray, _, hk, rfl, rfl, rfl, by rw [List.size_toArray, lenV]; exact hl, by simpa using rv⟩) (fun b u z => by have z' : (none : Option HO) = some u := z; cases z') (fun b z => absurd rfl z) fun z => absurd rfl z
  | none =>
    refine core (fun b => if b = a then some (.frz { cls := .type "list", data := .seq vs.toArray } (.lst (ns.map V.int))) else none) (fun b => ?_) (.inl ⟨{ cls := .type "list", data := .seq vs.toArray }, if_pos rfl⟩) (fun b u z => ?_) (fun b z => ?_) fun _ => hk
    · by_cases hb : b = a
      · exact .inr ⟨_, _, if_pos hb⟩
      · exact .inl (if_neg hb)
    · by_cases hb : b = a
      · have z' := (if_pos hb).symm.trans z
        cases z'
        subst hb
        exact ⟨ha, by rw [List.length_map]; exact hl, vs, _, rv, ha⟩
      · have z' := (if_neg hb).symm.trans z
        cases z'
    · by_cases hb : b = a
      · exact hb
      · exact absurd (if_neg hb) z

/-- what k_head leaves of a law, from its table's answer at every script -/
theorem walk_ev {l : PySem.W.OpenLaw} {n k : Nat} {q : Program} {loose : List Str} {XP : (Str → Option Value) → Heap → Prop} {YP : World → Heap → Prop} {d : DefRec} {K : Params → PySem.W.Frag} {t : List D → Store → Out D}
    (hn : l.most = some n) (hn2 : n ≤ sizeLine) (hdf : d.params.defaults = []) (hr : Room k callerA)
    (hY : ∀ (w : World) (h : Heap), YP w h → (K w.params).In h)
    (F : ∀ (w : World) (mg : Str → Option Value) (fa : Addr) (h : Heap), (K w.params).In h → h.Ns mainGlobals mg → mg d.name = some (.ref fa) →
      ∃ T XT : List Addr, ∀ base : Heap, (K w.params).In base → base.Ns mainGlobals mg → FG l.prog w (K w.params) mg base k fa (spT ⟨K w.params, T, XT⟩ t))
    (ht : ∀ ns : List Int, ns.length ≤ n → ∃ M, t [.ref 0] [.frz (ns.map D.int)] = .ok (.bl true) M) :
    PySem.W.WalkO q loose XP YP l.row.toRowW d [] (fun f vs => PySem.call f vs) := by
  refine Att.attach_call hn hdf fun w s₀ s₁ mg mb fa o pm cd doc a vs ns G Y ho hd hcd hmg hobj hints hlen hg => ?_
  have KX := hY w _ Y
  obtain ⟨T, XT, hF⟩ := F w mg fa _ KX G.T.g hmg
  exact law_ev (G := ⟨K w.params, T, XT⟩) KX G.T.g G.T.b G.T.builtins G.T.nolimit hg hobj hints (Nat.le_trans hlen hn2) hr hF (ht ns hlen)
end Ev

/-! Ev, part M: bools as values, chains, the bundle of a context's facts. -/
namespace Ev
open PySem L2

section
variable {G : Gd} {X : Cx} {W : WX}
theorem takes_no {Y : Cx} : Takes Y Wno := fun _ _ ⟨_, _, _, _, _, _, _, _, _, _, _, _, _, _, _, _, w⟩ => w.elim
/-- what a def's context has -/
structure Okk (G : Gd) (X : Cx) (k : Nat) : Prop where
  hK : X.K = G.K
  calm : X.calm = true
  nd : X.N.Nodup
  room : Room k X.A
  gu : X.A.guards = some []
theorem Okk.u1 {k : Nat} (o : Okk G X k) : X.A.units + 160 < cLine := by have := o.room.un; omega
theorem Okk.u2 {k : Nat} (o : Okk G X k) : X.A.units + 1 < cLine := by have := o.room.un; omega

theorem ev_or1 {op : BoolOp} {f : EvE} {a : Expr} {pos : Pos} (h : PEv G X W f a) : PEv G X W f (.BoolOp op [a] pos) := pe_one h
theorem ev_and (hK : X.K = G.K) {f g : EvE} {a b : Expr} {rest : List Expr} {pos : Pos} (ha : PEv G X W f a) (hb : PEv G X W g (.BoolOp .And (b :: rest) pos)) : PEv G X W (eAn f g) (.BoolOp .And (a :: b :: rest) pos) :=
  PE.weak (pe_andT ha hb) fun σ H Q ⟨eta, M, rho, E, S, P⟩ => ⟨eta, M, rho, E, S, P.bind.imp fun r1 H1 x M1 e1 S1 P1 v rv => by
    obtain ⟨k, h1, h2⟩ := truthD_ok (W := W) (σ := σ) (Q := fun c H' => H' = H1 → if c = true then tE G W g σ H' Q else Q v H') hK S1 rv (P1.bind.imp fun r2 H2 c M2 e2 S2 P2 hh => by
      subst hh
      cases c with
      | true => exact ⟨eta, M2, r2, (E.mono e1).mono e2, S2, P2⟩
      | false => exact P2.now S2 v (Rep.mono e2 _ _ rv))
    exact ⟨k, h1, h2 rfl⟩⟩
theorem ev_or (hK : X.K = G.K) {f g : EvE} {a b : Expr} {rest : List Expr} {pos : Pos} (ha : PEv G X W f a) (hb : PEv G X W g (.BoolOp .Or (b :: rest) pos)) : PEv G X W (eOrr f g) (.BoolOp .Or (a :: b :: rest) pos) :=
  PE.weak (pe_orT ha hb) fun σ H Q ⟨eta, M, rho, E, S, P⟩ => ⟨eta, M, rho, E, S, P.bind.imp fun r1 H1 x M1 e1 S1 P1 v rv => by
    obtain ⟨k, h1, h2⟩ := truthD_ok (W := W) (σ := σ) (Q := fun c H' => H' = H1 → if c = true then Q v H' else tE G W g σ H' Q) hK S1 rv (P1.bind.imp fun r2 H2 c M2 e2 S2 P2 hh => by
      subst hh
      cases c with
      | true => exact P2.now S2 v (Rep.mono e2 _ _ rv)
      | false => exact ⟨eta, M2, r2, (E.mono e1).mono e2, S2, P2⟩)
    exact ⟨k, h1, h2 rfl⟩⟩
theorem ev_not (hK : X.K = G.K) {f : EvE} {a : Expr} {pos : Pos} (ha : PEv G X W f a) : PEv G X W (eNt f) (.UnaryOp .Not a pos) :=
  PE.weak (pe_notT ha) fun σ H Q ⟨eta, M, rho, E, S, P⟩ => ⟨eta, M, rho, E, S, P.bind.imp fun r1 H1 x M1 e1 S1 P1 v rv => by
    obtain ⟨k, h1, h2⟩ := truthD_ok (W := W) (σ := σ) (Q := fun c H' => H' = H1 → Q (.bl (!c)) H') hK S1 rv (P1.bind.imp fun r2 H2 c M2 e2 S2 P2 hh => by
      subst hh
      exact P2.now S2 _ (by simp [Rep]))
    exact ⟨k, h1, h2 rfl⟩⟩
/-! ### chains -/
def eChn (f g : D → D → Store → Out D) (a b c : EvE) : EvE := fun eta M => (a eta M).bind fun x M1 => (b eta M1).bind fun y M2 => (f x y M2).bind fun z M3 => match z with
  | .bl true => (c eta M3).bind fun w M4 => g y w M4
  | .bl false => .ok (.bl false) M3
  | _ => .bad
theorem chn_ok {f g : D → D → Store → Out D} {r r' : R2} {fa fb fc : EvE} (hs : OpS G f r) (hs' : OpS G g r') {σ : St} {H : Hp} {Q : VK} (h : tE G W (eChn f g fa fb fc) σ H Q) : tChain r r' (tE G W fa) (tE G W fb) (tE G W fc) σ H Q := by
  obtain ⟨eta, M, rho, E, S, P⟩ := h
  refine ⟨eta, M, rho, E, S, P.bind.imp fun r1 H1 x M1 e1 S1 P1 v rv => ⟨eta, M1, r1, E.mono e1, S1, P1.bind.imp fun r2 H2 y M2 e2 S2 P2 w rw' => ?_⟩⟩
  refine hs W σ r2 H2 M2 x y v w _ S2 (Rep.mono e2 _ _ rv) rw' (P2.bind.imp fun r3 H3 z M3 e3 S3 P3 u ru => ?_)
  cases z with
  | bl k =>
    have hu := rep_bl ru
    subst hu
    refine ⟨k, rfl, ?_⟩
    cases k with
    | true => exact ⟨eta, M3, r3, ((E.mono e1).mono e2).mono e3, S3, P3.bind.imp fun r4 H4 w4 M4 e4 S4 P4 v4 rv4 => hs' W σ r4 H4 M4 y w4 w v4 Q S4 (Rep.mono e4 _ _ (Rep.mono e3 _ _ rw')) rv4 P4⟩
    | false => exact P3.now S3 _ (by simp [Rep])
  | _ => exact P3.elim
theorem ev_chn {op op' : CmpOp} {f g : D → D → Store → Out D} {r r' : R2} {fa fb fc : EvE} {a b c : Expr} {pos : Pos} (ho : OpR X (compareOp op) r) (ho' : OpR X (compareOp op') r') (hs : OpS G f r) (hs' : OpS G g r') (ha : PEv G X W fa a) (hb : PEv G X W fb b) (hc : PEv G X W fc c)
    (hm : lastMarks [op, op'] [b, c] = false := by with_unfolding_all rfl) : PEv G X W (eChn f g fa fb fc) (.Compare a [op, op'] [b, c] pos) :=
  PE.weak (pe_chain ho ho' ha hb hc hm) fun σ H Q h => chn_ok hs hs' h
theorem tv_chn {op op' : CmpOp} {f g : D → D → Store → Out D} {r r' : R2} {fa fb fc : EvE} {a b c : Expr} {pos : Pos} (ho : OpR X (compareOp op) r) (ho' : OpR X (compareOp op') r') (hs : OpS G f r) (hs' : OpS G g r') (ha : PEv G X W fa a) (hb : PEv G X W fb b) (hc : PEv G X W fc c)
    (hm : lastMarks [op, op'] [b, c] = false := by with_unfolding_all rfl) : PTv G X W (tOf (eChn f g fa fb fc)) (.Compare a [op, op'] [b, c] pos) :=
  PT.weak (pt_chain ho ho' ha hb hc hm) fun σ H Q ⟨eta, M, rho, E, S, P⟩ => chn_ok hs hs' ⟨eta, M, rho, E, S, P.bind.imp fun r3 H3 z M3 e3 S3 P3 u ru => by
    cases z with
    | bl b => simp only [Rep] at ru; subst ru; exact ⟨b, rfl, P3.now S3⟩
    | _ => exact P3.elim⟩
/-! ### op= of ints -/
def dMulI (x y : D) (M : Store) : Out D := match x, y with
  | .int i, .int j => if i.natAbs.log2 + j.natAbs.log2 < 1000000 then .ok (.int (i * j)) M else .bad
  | _, _ => .bad
theorem iop_mulW : OpR X (inplaceOp .Mult) (rI CMulW fun i j => .int (i * j)) := opI fun _ _ _ _ _ _ _ hc q => PyProof.Rows.imul_int q hc.ok
theorem ds_mulI : OpS G dMulI (rI CMulW fun i j => .int (i * j)) := fun W σ rho H M x y v w Q S rx ry P => by
  cases x <;> cases y <;> try exact P.elim
  rename_i i j
  have h1 := rep_int rx
  have h2 := rep_int ry
  subst h1; subst h2
  simp only [dMulI] at P
  split at P
  · rename_i hc
    exact ⟨i, j, rfl, rfl, hc, good_int S P⟩
  · exact P.elim
def dAddI (x y : D) (M : Store) : Out D := match x, y with
  | .int i, .int j => .ok (.int (i + j)) M
  | _, _ => .bad
theorem ds_addI : OpS G dAddI (rI0 fun i j => .int (i + j)) := fun W σ rho H M x y v w Q S rx ry P => by
  cases x <;> cases y <;> try exact P.elim
  rename_i i j
  have h1 := rep_int rx
  have h2 := rep_int ry
  subst h1; subst h2
  exact ⟨i, j, rfl, rfl, good_int S P⟩
end
end Ev

/-! Ev, part N: list(range(..)). -/
namespace Ev
open PySem L2

def rgD (a b : Int) : List D := (List.range (b - a).toNat).map fun i => D.int (a + (i : Nat))
def rgOut (a b : Int) (M : Store) : Out D := if -(2 ^ 62) ≤ a ∧ a < 2 ^ 62 ∧ -(2 ^ 62) ≤ b ∧ b < 2 ^ 62 ∧ (b - a).toNat ≤ cap then .ok (.ref M.length) (M ++ [.lst (rgD a b)]) else .bad
def rgIn1 (x : D) (M : Store) : Out D := match x with
  | .int j => rgOut 0 j M
  | _ => .bad
def rgIn2 (x y : D) (M : Store) : Out D := match x, y with
  | .int i, .int j => rgOut i j M
  | _, _ => .bad
def eLrg1 (f : EvE) : EvE := fun eta M => (f eta M).bind rgIn1
def eLrg2 (f g : EvE) : EvE := fun eta M => (f eta M).bind fun x M1 => (g eta M1).bind fun y M2 => rgIn2 x y M2
section
variable {G : Gd} {X : Cx} {W : WX}
theorem reps_rg {K : PySem.W.Frag} {rho : List Addr} {H : Hp} (a : Int) : ∀ is : List Nat, Reps K rho H (is.map fun i => D.int (a + (i : Nat))) (is.map fun i => V.int (a + (i : Nat)))
  | [] => by simp [Reps]
  | i :: is => by
    simp only [List.map_cons, Reps]
    exact ⟨_, _, rfl, by simp [Rep], reps_rg a is⟩
theorem rgOut_ok {σ : St} {rho : List Addr} {H : Hp} {M : Store} {a b : Int} {Q : VK} (S : StR G.K G.T rho H M) (P : Post G W σ rho H (GoodD G.K Q) (rgOut a b M)) : RgOk a b ∧ ∀ q, H q = none → Q (.ref q) (upd H q (.lst (rgV a b))) := by
  unfold rgOut at P
  split at P
  · rename_i h
    exact ⟨⟨h.1, h.2.1, h.2.2.1, h.2.2.2.1, h.2.2.2.2⟩, new_lst S (reps_rg a _) P⟩
  · exact P.elim
theorem ev_lrg1 {f : EvE} {a : Expr} {p p2 pos pos2 : Pos} (hc : X.calm = true) (hg : Gl X "list") (hm : X.mg "list" = none) (hg2 : Gl X "range") (hm2 : X.mg "range" = none) (ha : PEv G X W f a)
    (na : starEach [a] X.env = (false, eval a X.env) :: starEach [] X.env := by rfl) (nb : starEach [Expr.Call (.Name "range" p2) [a] [] pos2] X.env = (false, eval (.Call (.Name "range" p2) [a] [] pos2) X.env) :: starEach [] X.env := by rfl) :
    PEv G X W (eLrg1 f) (.Call (.Name "list" p) [.Call (.Name "range" p2) [a] [] pos2] [] pos) :=
  PE.weak (pe_listRg hc hg hm (prg_1 hg2 hm2 ha na) nb) fun σ H Q ⟨eta, M, rho, E, S, P⟩ => ⟨eta, M, rho, E, S, P.bind.imp fun r1 H1 x M1 e1 S1 P1 v rv => by
    cases x with
    | int j =>
      have h1 := rep_int rv
      subst h1
      exact ⟨j, rfl, rgOut_ok S1 P1⟩
    | _ => exact P1.elim⟩
theorem ev_lrg2 {f g : EvE} {a b : Expr} {p p2 pos pos2 : Pos} (hc : X.calm = true) (hg : Gl X "list") (hm : X.mg "list" = none) (hg2 : Gl X "range") (hm2 : X.mg "range" = none) (ha : PEv G X W f a) (hb : PEv G X W g b)
    (na : starEach [a, b] X.env = (false, eval a X.env) :: starEach [b] X.env := by rfl) (na2 : starEach [b] X.env = (false, eval b X.env) :: starEach [] X.env := by rfl) (hp : (backTo pos2 (starEach [b] X.env)).any (·.1) = false := by rfl)
    (nb : starEach [Expr.Call (.Name "range" p2) [a, b] [] pos2] X.env = (false, eval (.Call (.Name "range" p2) [a, b] [] pos2) X.env) :: starEach [] X.env := by rfl) :
    PEv G X W (eLrg2 f g) (.Call (.Name "list" p) [.Call (.Name "range" p2) [a, b] [] pos2] [] pos) :=
  PE.weak (pe_listRg hc hg hm (prg_2 hg2 hm2 ha hb na na2 hp) nb) fun σ H Q ⟨eta, M, rho, E, S, P⟩ => tE2 E S P fun r2 H2 M2 x y v w _ S2 rx ry P2 => by
    cases x <;> cases y <;> try exact P2.elim
    rename_i i j
    have h1 := rep_int rx
    have h2 := rep_int ry
    subst h1; subst h2
    exact ⟨i, j, rfl, rfl, rgOut_ok S2 P2⟩
end
end Ev

/-! Ev, part P: rules for running bodies by hand: loops, comprehensions, calls. -/
namespace Ev
open PySem L2

/-! ### a turn's end -/
def StepR (I : Env → Store → Prop) (R : OutS → Prop) : OutS → Prop
  | .nx e M => I e M
  | .ct e M => I e M
  | .bk e M => R (.nx e M)
  | .rt d M => R (.rt d M)
  | .exc x fs e M => R (.exc x fs e M)
  | .bad => R .bad

theorem forLoop_rule {J : Iter} {t : Tgt} {b : EvS} {R : OutS → Prop} (I : Nat → Env → Store → Prop) (n : Nat) (hle : ∀ i eta M, I i eta M → i ≤ n)
    (step : ∀ i eta M, I i eta M → (J i M = some none ∧ R (.nx eta M)) ∨ ∃ d eta1, J i M = some (some d) ∧ asg M t d eta = some eta1 ∧ StepR (I (i + 1)) R (b eta1 M)) :
    ∀ (m i : Nat) (eta : Env) (M : Store), n < m + i → I i eta M → R (forLoop J t b m i eta M)
  | 0, i, eta, M, hm, h => by have := hle i eta M h; omega
  | m + 1, i, eta, M, hm, h => by
    unfold forLoop
    rcases step i eta M h with ⟨e, r⟩ | ⟨d, eta1, e, ea, r⟩
    · rw [e]; exact r
    · rw [e]
      simp only [ea]
      cases hb : b eta1 M with
      | nx e' M' => rw [hb] at r; exact forLoop_rule I n hle step m (i + 1) e' M' (by omega) r
      | ct e' M' => rw [hb] at r; exact forLoop_rule I n hle step m (i + 1) e' M' (by omega) r
      | bk e' M' => rw [hb] at r; exact r
      | rt d M' => rw [hb] at r; exact r
      | exc x fs e' M' => rw [hb] at r; exact r
      | bad => rw [hb] at r; exact r

/-- over a range -/
theorem for_rg {lo : Int} {n : Nat} {t : Tgt} {b : EvS} {R : OutS → Prop} {eta : Env} {M : Store} (I : Nat → Env → Store → Prop) (hn : n < FUEL) (h0 : I 0 eta M)
    (step : ∀ i eta M, i < n → I i eta M → ∃ eta1, asg M t (.int (lo + i)) eta = some eta1 ∧ StepR (I (i + 1)) R (b eta1 M)) (hend : ∀ eta M, I n eta M → R (.nx eta M)) : R (forLoop (itRg lo n) t b FUEL 0 eta M) :=
  forLoop_rule (fun i e N => i ≤ n ∧ I i e N) n (fun _ _ _ h => h.1) (fun i e N ⟨h1, h2⟩ => by
    by_cases hi : i < n
    · obtain ⟨eta1, h3, h4⟩ := step i e N hi h2
      refine .inr ⟨_, eta1, by simp [itRg, hi], h3, ?_⟩
      cases hb : b eta1 N <;> rw [hb] at h4 <;> simp only [StepR] at h4 ⊢
      · exact ⟨hi, h4⟩
      · exact h4
      · exact h4
      · exact ⟨hi, h4⟩
      · exact h4
      · exact h4
    · have : i = n := by omega
      subst this
      exact .inl ⟨by simp [itRg], hend e N h2⟩) FUEL 0 eta M (by omega) ⟨Nat.zero_le _, h0⟩
/-- over members that are known -/
theorem for_ds {J : Iter} (ds : List D) {t : Tgt} {b : EvS} {R : OutS → Prop} {eta : Env} {M : Store} (I : Nat → Env → Store → Prop) (hn : ds.length < FUEL) (hJ : ∀ i eta M, I i eta M → J i M = some ds[i]?) (h0 : I 0 eta M)
    (step : ∀ i d eta M, ds[i]? = some d → I i eta M → ∃ eta1, asg M t d eta = some eta1 ∧ StepR (I (i + 1)) R (b eta1 M)) (hend : ∀ eta M, I ds.length eta M → R (.nx eta M)) : R (forLoop J t b FUEL 0 eta M) :=
  forLoop_rule (fun i e N => i ≤ ds.length ∧ I i e N) ds.length (fun _ _ _ h => h.1) (fun i e N ⟨h1, h2⟩ => by
    have hj := hJ i e N h2
    by_cases hi : i < ds.length
    · obtain ⟨eta1, h3, h4⟩ := step i ds[i] e N (List.getElem?_eq_getElem hi) h2
      refine .inr ⟨ds[i], eta1, by rw [hj, List.getElem?_eq_getElem hi], h3, ?_⟩
      cases hb : b eta1 N <;> rw [hb] at h4 <;> simp only [StepR] at h4 ⊢
      · exact ⟨hi, h4⟩
      · exact h4
      · exact h4
      · exact ⟨hi, h4⟩
      · exact h4
      · exact h4
    · have : i = ds.length := by omega
      subst this
      exact .inl ⟨by rw [hj]; simp, hend e N h2⟩) FUEL 0 eta M (by omega) ⟨Nat.zero_le _, h0⟩

/-! ### while -/
theorem while_rule {c : EvT} {b : EvS} {R : OutS → Prop} (I : Nat → Env → Store → Prop)
    (step : ∀ i eta M, I i eta M → ∃ k M1, c eta M = .ok k M1 ∧ if k = true then (∃ j, j < i ∧ StepR (I j) R (b eta M1)) else R (.nx eta M1)) :
    ∀ (m i : Nat) (eta : Env) (M : Store), i < m → I i eta M → R (sWhile c b m eta M)
  | 0, i, eta, M, hm, h => by omega
  | m + 1, i, eta, M, hm, h => by
    obtain ⟨k, M1, hc, hk⟩ := step i eta M h
    unfold sWhile
    simp only [hc, OutS.bindE]
    cases k with
    | false => exact hk
    | true =>
      simp only [if_true] at hk ⊢
      obtain ⟨j, hj, r⟩ := hk
      cases hb : b eta M1 with
      | nx e' M' => rw [hb] at r; exact while_rule I step m j e' M' (by omega) r
      | ct e' M' => rw [hb] at r; exact while_rule I step m j e' M' (by omega) r
      | bk e' M' => rw [hb] at r; exact r
      | rt d M' => rw [hb] at r; exact r
      | exc x fs e' M' => rw [hb] at r; exact r
      | bad => rw [hb] at r; exact r

/-! ### the store -/
theorem app_at (P : Store) (a : MO) (N : Store) : (P ++ a :: N)[P.length]? = some a := by simp
theorem app_at' {P : Store} {n : Nat} (h : P.length = n) (a : MO) (N : Store) : (P ++ a :: N)[n]? = some a := by subst h; simp
theorem app_set' {P : Store} {n : Nat} (h : P.length = n) (a b : MO) (N : Store) : (P ++ a :: N).set n b = P ++ b :: N := by subst h; simp
theorem app_old {P : Store} {n : Nat} {o : MO} (h : P[n]? = some o) (N : Store) : (P ++ N)[n]? = some o := by
  rw [List.getElem?_append_left (List.getElem?_eq_some_iff.mp h).1]; exact h

/-! ### comprehensions: P: what was there, then the list, then what the turns leave behind -/
theorem lc_rule {J : Iter} {t : Tgt} {vs : List Nat} {c : EvT} {f : EvE} {eta : Env} {n : Nat} {R : Store → Prop} (len : Nat) (I : Nat → Store → List D → Store → Prop) (hn : ∀ i P acc N, I i P acc N → P.length = n ∧ acc.length < cap)
    (hend : ∀ P acc N, I len P acc N → J len (P ++ .lst acc :: N) = some none ∧ R (P ++ .lst acc :: N))
    (step : ∀ i P acc N, i < len → I i P acc N → ∃ d eta1, J i (P ++ .lst acc :: N) = some (some d) ∧ asg (P ++ .lst acc :: N) t d (wipeE eta vs) = some eta1 ∧
      ((c eta1 (P ++ .lst acc :: N) = .ok true (P ++ .lst acc :: N) ∧ ∃ y P' N', f eta1 (P ++ .lst acc :: N) = .ok y (P' ++ .lst acc :: N') ∧ P'.length = n ∧ I (i + 1) P' (acc ++ [y]) N') ∨
        (c eta1 (P ++ .lst acc :: N) = .ok false (P ++ .lst acc :: N) ∧ I (i + 1) P acc N))) :
    ∀ (m i : Nat) (P : Store) (acc : List D) (N : Store), len < m + i → i ≤ len → I i P acc N → ∃ M', lcLoop J t vs c f eta n m i (P ++ .lst acc :: N) = .ok (.ref n) M' ∧ R M'
  | 0, i, P, acc, N, hm, hi, h => by omega
  | m + 1, i, P, acc, N, hm, hi, h => by
    unfold lcLoop
    by_cases hl : i < len
    · obtain ⟨d, eta1, e1, e2, hc⟩ := step i P acc N hl h
      simp only [e1, e2]
      rcases hc with ⟨h1, y, P', N', h2, h3, h4⟩ | ⟨h1, h4⟩
      · simp only [h1, h2, noX, Out.bind, if_true]
        have hlt := (hn i P acc N h).2
        simp only [putAt, app_at' h3, if_pos hlt, app_set' h3]
        exact lc_rule len I hn hend step m (i + 1) P' (acc ++ [y]) N' (by omega) hl h4
      · simp only [h1, noX, Out.bind, Bool.false_eq_true, if_false]
        exact lc_rule len I hn hend step m (i + 1) P acc N (by omega) hl h4
    · have : i = len := by omega
      subst this
      obtain ⟨h1, h2⟩ := hend P acc N h
      simp only [h1]
      exact ⟨_, rfl, h2⟩
/-- the turns leave all as it was -/
theorem lc_pure {J : Iter} {t : Tgt} {vs : List Nat} {f : EvE} {eta : Env} {M : Store} (len : Nat) (d : Nat → D) (y : Nat → D) (hlen : len < cap) (hJ : ∀ i acc, i < len → J i (M ++ [.lst acc]) = some (some (d i))) (hE : ∀ acc, J len (M ++ [.lst acc]) = some none)
    (step : ∀ i acc, i < len → ∃ eta1, asg (M ++ [.lst acc]) t (d i) (wipeE eta vs) = some eta1 ∧ f eta1 (M ++ [.lst acc]) = .ok (y i) (M ++ [.lst acc])) :
    lcLoop J t vs tYesE f eta M.length FUEL 0 (M ++ [.lst []]) = .ok (.ref M.length) (M ++ [.lst ((List.range len).map y)]) := by
  have hf : cap < FUEL := by unfold FUEL cap; decide
  obtain ⟨M', h1, h2⟩ := lc_rule (J := J) (t := t) (vs := vs) (c := tYesE) (f := f) (eta := eta) (n := M.length) (R := fun M' => M' = M ++ [.lst ((List.range len).map y)]) len
    (fun i P acc N => i ≤ len ∧ P = M ∧ acc = (List.range i).map y ∧ N = []) (fun i P acc N ⟨h0, h1, h2, h3⟩ => by subst h1 h2; exact ⟨rfl, by simp; omega⟩)
    (fun P acc N ⟨_, h1, h2, h3⟩ => by subst h1 h2 h3; exact ⟨hE _, rfl⟩)
    (fun i P acc N hi ⟨_, h1, h2, h3⟩ => by
      subst h1 h2 h3
      obtain ⟨eta1, h4, h5⟩ := step i ((List.range i).map y) hi
      exact ⟨d i, eta1, hJ i _ hi, h4, .inl ⟨rfl, y i, P, [], h5, rfl, hi, rfl, by rw [List.range_succ]; simp, rfl⟩⟩) FUEL 0 M [] [] (by omega) (Nat.zero_le _) ⟨Nat.zero_le _, rfl, rfl, rfl⟩
  rw [h1, h2]
/-- with a condition: what is kept -/
theorem lc_filter {J : Iter} {t : Tgt} {vs : List Nat} {c : EvT} {f : EvE} {eta : Env} {M : Store} (len : Nat) (d : Nat → D) (q : Nat → Bool) (y : Nat → D) (hlen : len < cap) (hJ : ∀ i acc, i < len → J i (M ++ [.lst acc]) = some (some (d i))) (hE : ∀ acc, J len (M ++ [.lst acc]) = some none)
    (step : ∀ i acc, i < len → ∃ eta1, asg (M ++ [.lst acc]) t (d i) (wipeE eta vs) = some eta1 ∧ c eta1 (M ++ [.lst acc]) = .ok (q i) (M ++ [.lst acc]) ∧ (q i = true → f eta1 (M ++ [.lst acc]) = .ok (y i) (M ++ [.lst acc]))) :
    lcLoop J t vs c f eta M.length FUEL 0 (M ++ [.lst []]) = .ok (.ref M.length) (M ++ [.lst (((List.range len).filter q).map y)]) := by
  have hf : cap < FUEL := by unfold FUEL cap; decide
  obtain ⟨M', h1, h2⟩ := lc_rule (J := J) (t := t) (vs := vs) (c := c) (f := f) (eta := eta) (n := M.length) (R := fun M' => M' = M ++ [.lst (((List.range len).filter q).map y)]) len
    (fun i P acc N => i ≤ len ∧ P = M ∧ acc = ((List.range i).filter q).map y ∧ N = []) (fun i P acc N ⟨h0, h1, h2, h3⟩ => by
      subst h1 h2
      have := List.length_filter_le q (List.range i)
      simp at this
      exact ⟨rfl, by simp; omega⟩)
    (fun P acc N ⟨_, h1, h2, h3⟩ => by subst h1 h2 h3; exact ⟨hE _, rfl⟩)
    (fun i P acc N hi ⟨_, h1, h2, h3⟩ => by
      subst h1 h2 h3
      obtain ⟨eta1, h4, h5, h6⟩ := step i (((List.range i).filter q).map y) hi
      refine ⟨d i, eta1, hJ i _ hi, h4, ?_⟩
      cases hq : q i with
      | true => exact .inl ⟨by rw [h5, hq], y i, P, [], h6 hq, rfl, hi, rfl, by rw [List.range_succ]; simp [hq], rfl⟩
      | false => exact .inr ⟨by rw [h5, hq], hi, rfl, by rw [List.range_succ]; simp [hq], rfl⟩) FUEL 0 M [] [] (by omega) (Nat.zero_le _) ⟨Nat.zero_le _, rfl, rfl, rfl⟩
  rw [h1, h2]

/-! ### calls -/
theorem tab_at {P : List Fn} {k i : Nat} {F : Fn} {args : List D} {M : Store} (h : P[i]? = some F) (hl : args.length = F.np) : tabOf P (k + 1) i args M = finS M (F.body (tabOf P k) (args.map some ++ List.replicate (F.nn - F.np) none) M) := by
  show (match P[i]? with
    | some F => runFn F (tabOf P k) args M
    | none => .bad) = _
  rw [h]
  simp only [runFn, if_pos hl]
theorem keptOk_app (k : Nat) : ∀ (M N : Store), keptOk k M (M ++ N) = true
  | [], _ => rfl
  | m :: M, N => by simp only [keptOk, List.cons_append, MO.same_refl, Bool.true_or, Bool.true_and]; exact keptOk_app k M N
/-- nothing old was written; the answer is old -/
theorem gc_old {M N : Store} {d : D} (h : d.low M.length = true) : gc M d (M ++ N) = .ok d M := by
  unfold gc
  rw [if_pos (keptOk_app _ _ _), if_pos h, List.take_left]
theorem gc_old0 {M : Store} {d : D} (h : d.low M.length = true) : gc M d M = .ok d M := by
  have := gc_old (N := []) h
  rwa [List.append_nil] at this
/-- .. a fresh object -/
theorem gc_new {M N : Store} {n : Nat} {o : MO} (hn : M.length ≤ n) (h : (M ++ N)[n]? = some o) (hz : o.isFrz = false) (hl : o.low M.length = true) : gc M (.ref n) (M ++ N) = .ok (.ref M.length) (M ++ [o]) := by
  unfold gc
  rw [if_pos (keptOk_app _ _ _)]
  have hb : (D.ref n).low M.length = false := by simp [D.low]; omega
  rw [hb]
  simp only [Bool.false_eq_true, if_false]
  rw [h]
  cases o with
  | frz _ => cases hz
  | lst _ => simp only [hl, if_true, List.take_left]
  | dicK _ => simp only [hl, if_true, List.take_left]
  | dicT _ => simp only [hl, if_true, List.take_left]
  | ins _ _ => simp only [hl, if_true, List.take_left]
end Ev

/-! Ev, part Q: the laws' source of numbers: made, picked from. -/
namespace Ev
open PySem L2

theorem keptOk_of {k : Nat} : ∀ {M0 M : Store}, M.length = M0.length → (∀ (i : Nat) (m o : MO), M0[i]? = some m → M[i]? = some o → o = m ∨ o.low k = true) → keptOk k M0 M = true
  | [], _, _, _ => rfl
  | m :: r, [], h, _ => by simp at h
  | m :: r, o :: s, h, f => by
    simp only [keptOk, Bool.and_eq_true, Bool.or_eq_true]
    refine ⟨?_, keptOk_of (by simpa using h) fun i a b h1 h2 => f (i + 1) a b (by simpa using h1) (by simpa using h2)⟩
    rcases f 0 m o rfl rfl with e | e
    · subst e; exact .inl (MO.same_refl _)
    · exact .inr e

abbrev kC : Key := Sum.inr "cells"
abbrev kL : Key := Sum.inr "left"
abbrev kM : Key := Sum.inr "mixed"
abbrev kT : Key := Sum.inr "turn"
theorem n_cl : ¬ kC = kL := by decide +kernel
theorem n_cm : ¬ kC = kM := by decide +kernel
theorem n_ct : ¬ kC = kT := by decide +kernel
theorem n_lm : ¬ kL = kM := by decide +kernel
theorem n_lt : ¬ kL = kT := by decide +kernel
theorem n_mt : ¬ kM = kT := by decide +kernel
theorem n_lc : ¬ kL = kC := by decide +kernel
theorem n_mc : ¬ kM = kC := by decide +kernel
theorem n_tc : ¬ kT = kC := by decide +kernel
theorem n_ml : ¬ kM = kL := by decide +kernel
theorem n_tl : ¬ kT = kL := by decide +kernel
theorem n_tm : ¬ kT = kM := by decide +kernel
theorem m_cl : ¬ (Str.ofString "cells" = Str.ofString "left") := by decide +kernel
theorem m_cm : ¬ (Str.ofString "cells" = Str.ofString "mixed") := by decide +kernel
theorem m_ct : ¬ (Str.ofString "cells" = Str.ofString "turn") := by decide +kernel
theorem m_lm : ¬ (Str.ofString "left" = Str.ofString "mixed") := by decide +kernel
theorem m_lt : ¬ (Str.ofString "left" = Str.ofString "turn") := by decide +kernel
theorem m_mt : ¬ (Str.ofString "mixed" = Str.ofString "turn") := by decide +kernel
theorem m_ml : ¬ (Str.ofString "mixed" = Str.ofString "left") := by decide +kernel
theorem m_tl : ¬ (Str.ofString "turn" = Str.ofString "left") := by decide +kernel
theorem m_tm : ¬ (Str.ofString "turn" = Str.ofString "mixed") := by decide +kernel
def srcO (c : Nat) (l m t : Int) : MO := .dicK [(kC, .ref c), (kL, .int l), (kM, .int m), (kT, .int t)]
section
variable {M : Store} {s c : Nat} {l m t : Int}
theorem src_c (h : M[s]? = some (srcO c l m t)) : dIx (.ref s) (.str "cells") M = .ok (.ref c) M := by
  simp only [dIx, dictAt, h, srcO, keyK, findK, if_true]
theorem src_l (h : M[s]? = some (srcO c l m t)) : dIx (.ref s) (.str "left") M = .ok (.int l) M := by
  simp only [dIx, dictAt, h, srcO, keyK, findK, if_true, if_neg n_cl]
theorem src_m (h : M[s]? = some (srcO c l m t)) : dIx (.ref s) (.str "mixed") M = .ok (.int m) M := by
  simp only [dIx, dictAt, h, srcO, keyK, findK, if_true, if_neg n_cm, if_neg n_lm]
theorem src_t (h : M[s]? = some (srcO c l m t)) : dIx (.ref s) (.str "turn") M = .ok (.int t) M := by
  simp only [dIx, dictAt, h, srcO, keyK, findK, if_true, if_neg n_ct, if_neg n_lt, if_neg n_mt]
theorem src_sl {x : Int} (h : M[s]? = some (srcO c l m t)) : setD (.ref s) (.str "left") (.int x) M = .ok () (M.set s (srcO c x m t)) := by
  simp only [setD, h, srcO, keyK]
  rw [if_pos (by simp [cap])]
  simp [putD, m_cl, m_ml, m_tl]
theorem src_sm {x : Int} (h : M[s]? = some (srcO c l m t)) : setD (.ref s) (.str "mixed") (.int x) M = .ok () (M.set s (srcO c l x t)) := by
  simp only [setD, h, srcO, keyK]
  rw [if_pos (by simp [cap])]
  simp [putD, m_cm, m_lm, m_tm]
theorem src_st {x : Int} (h : M[s]? = some (srcO c l m t)) : setD (.ref s) (.str "turn") (.int x) M = .ok () (M.set s (srcO c l m x)) := by
  simp only [setD, h, srcO, keyK]
  rw [if_pos (by simp [cap])]
  simp [putD, m_ct, m_lt, m_mt]
end
/-- the source stands at s, its cells at c -/
structure Src (M : Store) (s c : Nat) : Prop where
  ne : s ≠ c
  at_ : ∃ (cs : List Int) (l m t : Int), M[s]? = some (srcO c l m t) ∧ M[c]? = some (.lst (cs.map D.int)) ∧ cs.length ≤ 63
theorem Src.lt {M : Store} {s c : Nat} (h : Src M s c) : s < M.length ∧ c < M.length := by
  obtain ⟨cs, l, m, t, h1, h2, _⟩ := h.at_
  exact ⟨(List.getElem?_eq_some_iff.mp h1).1, (List.getElem?_eq_some_iff.mp h2).1⟩
theorem Src.app {M : Store} {s c : Nat} (h : Src M s c) (N : Store) : Src (M ++ N) s c := by
  obtain ⟨cs, l, m, t, h1, h2, h3⟩ := h.at_
  exact ⟨h.ne, cs, l, m, t, app_old h1 N, app_old h2 N, h3⟩
/-- all but the source is as it was -/
structure But (s c : Nat) (M M' : Store) : Prop where
  len : M'.length = M.length
  at_ : ∀ i, i ≠ s → i ≠ c → M'[i]? = M[i]?
theorem But.refl {s c : Nat} (M : Store) : But s c M M := ⟨rfl, fun _ _ _ => rfl⟩
theorem But.trans {s c : Nat} {M1 M2 M3 : Store} (a : But s c M1 M2) (b : But s c M2 M3) : But s c M1 M3 := ⟨b.len.trans a.len, fun i h1 h2 => (b.at_ i h1 h2).trans (a.at_ i h1 h2)⟩
theorem But.setS {s c : Nat} (M : Store) (o : MO) : But s c M (M.set s o) := ⟨by simp, fun i h1 _ => by rw [List.getElem?_set_ne (Ne.symm h1)]⟩
theorem But.setC {s c : Nat} (M : Store) (o : MO) : But s c M (M.set c o) := ⟨by simp, fun i _ h1 => by rw [List.getElem?_set_ne (Ne.symm h1)]⟩
/-- what was picked: the store behind is split as the store before -/
theorem But.split {s c : Nat} {P N M' : Store} (b : But s c (P ++ N) M') (hs : s < P.length) (hc : c < P.length) : ∃ P', M' = P' ++ N ∧ But s c P P' ∧ P'.length = P.length := by
  have hl := b.len
  rw [List.length_append] at hl
  have e : M'.drop P.length = N := by
    apply List.ext_getElem?
    intro i
    rw [List.getElem?_drop, b.at_ _ (by omega) (by omega), List.getElem?_append_right (by omega)]
    congr 1; omega
  refine ⟨M'.take P.length, ?_, ⟨by simp; omega, fun i h1 h2 => ?_⟩, by simp; omega⟩
  · rw [← e]; simp
  · by_cases hi : i < P.length
    · rw [List.getElem?_take_of_lt hi, b.at_ i h1 h2, List.getElem?_append_left hi]
    · rw [List.getElem?_eq_none (by simp; omega), List.getElem?_eq_none (by omega)]
theorem Src.of_app {P N : Store} {s c : Nat} (h : Src (P ++ N) s c) (hs : s < P.length) (hc : c < P.length) : Src P s c := by
  obtain ⟨cs, l, m, t, h1, h2, h3⟩ := h.at_
  rw [List.getElem?_append_left hs] at h1
  rw [List.getElem?_append_left hc] at h2
  exact ⟨h.ne, cs, l, m, t, h1, h2, h3⟩

/-! ### picking -/
def pickQ : EvT := tAn (tOf (eBin dGt (eVar 1) (eC (.int 1)))) (tAn (tOf (eBin dLt (eBin dIx (eVar 0) (eC (.str "left"))) (eC (.int 2)))) (tOf (eBin dGt (eB bLen (lCons (eBin dIx (eVar 0) (eC (.str "cells"))) (lNil))) (eC (.int 0)))))
def pickB : EvS := sSet (eVar 0) (eC (.str "left")) (eMl0 mPop (eBin dIx (eVar 0) (eC (.str "cells"))))
def pickR : EvS :=
  sSeq (sAsg (.nm 2) (eBin dIx (eVar 0) (eC (.str "left")))) (sSeq (sIf (tOrr (tOf (eBin dLt (eVar 1) (eC (.int 2)))) (tOf (eBin dGt (eVar 2) (eC (.int 1))))) (sSeq (sSet (eVar 0) (eC (.str "left")) (eBin dFdiv (eVar 2) (eB bMax (lCons (eC (.int 1)) (lCons (eVar 1) (lNil)))))) (sRet (eBin dMod (eB bInt (lCons (eVar 2) (lNil))) (eB bMax (lCons (eC (.int 1)) (lCons (eVar 1) (lNil))))))) (sSkip)) (sSeq (sSet (eVar 0) (eC (.str "turn")) (eBin dAdd (eBin dIx (eVar 0) (eC (.str "turn"))) (eC (.int 1)))) (sSeq (sAsg (.nm 3) (eBin dMod (eB bInt (lCons (eBin dAdd (eBin dIx (eVar 0) (eC (.str "mixed"))) (eBin dMulA (eBin dIx (eVar 0) (eC (.str "turn"))) (eC (.int 104729)))) (lNil))) (eC (.int 998244353)))) (sSeq (sAsg (.nm 3) (eBin dMod (eB bInt (lCons (eBin dAdd (eBin dMulA (eVar 3) (eVar 3)) (eBin dMulA (eBin dIx (eVar 0) (eC (.str "turn"))) (eC (.int 17)))) (lNil))) (eC (.int 2147483647)))) (sSeq (sSet (eVar 0) (eC (.str "mixed")) (eVar 3)) (sRet (eBin dMod (eB bInt (lCons (eBin dFdiv (eVar 3) (eC (.int 16))) (lNil))) (eVar 1))))))))
def cPick : EvS := sSeq (sWhile pickQ pickB FUEL) pickR

def PickR (M0 : Store) (s c : Nat) (many : Int) (o : OutS) : Prop := ∃ r M', o = .rt (.int r) M' ∧ 0 ≤ r ∧ r < many ∧ Src M' s c ∧ But s c M0 M'

theorem mul1 {i j : Int} (h : -(2 ^ 64) < j ∧ j < 2 ^ 64) : mulOk i j = true := by
  unfold mulOk
  simp only [Bool.or_eq_true, decide_eq_true_eq]
  exact .inl (.inr h)

theorem pickR_ok {M0 M : Store} {s c : Nat} {many : Int} (h : Src M s c) (b : But s c M0 M) (h1 : 1 ≤ many) (h2 : many < 2 ^ 60) : PickR M0 s c many (pickR [some (.ref s), some (.int many), none, none] M) := by
  obtain ⟨cs, l, m, t, e1, e2, e3⟩ := h.at_
  have hlt := h.lt
  have hmx : (if many > 1 then many else 1) = many := by split <;> omega
  have hlg : many.natAbs.log2 < 9000 := by
    have : many.natAbs.log2 ≤ many.natAbs := Nat.log2_le_self _
    rcases Nat.lt_or_ge many.natAbs.log2 9000 with q | q
    · exact q
    · exfalso
      have q1 : 2 ^ 9000 ≤ many.natAbs := (Nat.le_log2 (by omega)).mp q
      have q2 : (2 : Nat) ^ 60 ≤ 2 ^ 9000 := Nat.pow_le_pow_right (by decide) (by decide)
      have q3 : many.natAbs < 2 ^ 60 := by
        have : (2 : Int) ^ 60 = ((2 ^ 60 : Nat) : Int) := by norm_cast
        omega
      omega
  unfold pickR
  by_cases hc : many < 2 ∨ 1 < l
  · refine ⟨l % many, M.set s (srcO c (l / many) m t), ?_, Int.emod_nonneg _ (by omega), Int.emod_lt_of_pos _ (by omega), ⟨h.ne, cs, l / many, m, t, by simp [hlt.1], by rw [List.getElem?_set_ne h.ne]; exact e2, e3⟩, b.trans (But.setS _ _)⟩
    simp only [sSeq, sAsg, sPar, setAll, sRet, sRetN, sIf, sExpr, sAug, sSet, sSkip, sFor, sBreak, sCont, OutS.bindE, asg, asgs, partsD, StepR, Out.bind, eVar, eC, eBin, eUn, eIf, eAn, eOrr, eNt, eTup, eLst, lCons, lNil, eB, eLc, eCall, eMl, eMl0, eCut, oNone, oSome, dCut, eGet1, eGet2, eDict, pCons, pNil, eDicK, eDicT, eLrg1, eLrg2, rgIn1, rgIn2, tOf, asB, tTru, truthD, tNt, tAn, tOrr, itE, itD, itRange1, itRange2, itEnum, dAdd, dSub, dMulA, dMul, dFdiv, dMod, dNeg, dCmp, dLt, dLe, dGt, dGe, dIs, dMulI, dAddI, bAbs, bInt, bLen, bMax, bMin, bSum, bTuple, bList, isLst, List.getElem?_cons_zero, List.getElem?_cons_succ, List.getElem?_nil, List.set_cons_zero, List.set_cons_succ, if_true, if_false, Bool.false_eq_true, decide_eq_true_eq, List.map_cons, List.map_nil, List.replicate, List.length_cons, List.length_nil, List.cons_append, List.nil_append, wipeE, src_l e1]
    by_cases q : many < 2
    · simp only [sSeq, sAsg, sPar, setAll, sRet, sRetN, sIf, sExpr, sAug, sSet, sSkip, sFor, sBreak, sCont, OutS.bindE, asg, asgs, partsD, StepR, Out.bind, eVar, eC, eBin, eUn, eIf, eAn, eOrr, eNt, eTup, eLst, lCons, lNil, eB, eLc, eCall, eMl, eMl0, eCut, oNone, oSome, dCut, eGet1, eGet2, eDict, pCons, pNil, eDicK, eDicT, eLrg1, eLrg2, rgIn1, rgIn2, tOf, asB, tTru, truthD, tNt, tAn, tOrr, itE, itD, itRange1, itRange2, itEnum, dAdd, dSub, dMulA, dMul, dFdiv, dMod, dNeg, dCmp, dLt, dLe, dGt, dGe, dIs, dMulI, dAddI, bAbs, bInt, bLen, bMax, bMin, bSum, bTuple, bList, isLst, List.getElem?_cons_zero, List.getElem?_cons_succ, List.getElem?_nil, List.set_cons_zero, List.set_cons_succ, if_true, if_false, Bool.false_eq_true, decide_eq_true_eq, List.map_cons, List.map_nil, List.replicate, List.length_cons, List.length_nil, List.cons_append, List.nil_append, wipeE, q, decide_true, src_sl e1, hmx, hlg, show (0 : Int) < many from by omega, and_self]
    · have q' : 1 < l := by omega
      simp only [sSeq, sAsg, sPar, setAll, sRet, sRetN, sIf, sExpr, sAug, sSet, sSkip, sFor, sBreak, sCont, OutS.bindE, asg, asgs, partsD, StepR, Out.bind, eVar, eC, eBin, eUn, eIf, eAn, eOrr, eNt, eTup, eLst, lCons, lNil, eB, eLc, eCall, eMl, eMl0, eCut, oNone, oSome, dCut, eGet1, eGet2, eDict, pCons, pNil, eDicK, eDicT, eLrg1, eLrg2, rgIn1, rgIn2, tOf, asB, tTru, truthD, tNt, tAn, tOrr, itE, itD, itRange1, itRange2, itEnum, dAdd, dSub, dMulA, dMul, dFdiv, dMod, dNeg, dCmp, dLt, dLe, dGt, dGe, dIs, dMulI, dAddI, bAbs, bInt, bLen, bMax, bMin, bSum, bTuple, bList, isLst, List.getElem?_cons_zero, List.getElem?_cons_succ, List.getElem?_nil, List.set_cons_zero, List.set_cons_succ, if_true, if_false, Bool.false_eq_true, decide_eq_true_eq, List.map_cons, List.map_nil, List.replicate, List.length_cons, List.length_nil, List.cons_append, List.nil_append, wipeE, q, q', decide_true, decide_false, src_sl e1, hmx, hlg, show (0 : Int) < many from by omega, and_self]
  · have q1 : ¬ many < 2 := fun z => hc (.inl z)
    have q2 : ¬ 1 < l := fun z => hc (.inr z)
    have f1 : (M.set s (srcO c l m (t + 1)))[s]? = some (srcO c l m (t + 1)) := by simp [hlt.1]
    have g1 : ∀ x : Int, 0 ≤ x % 998244353 ∧ x % 998244353 < 998244353 := fun x => ⟨Int.emod_nonneg _ (by decide), Int.emod_lt_of_pos _ (by decide)⟩
    refine ⟨_, _, by
      simp only [sSeq, sAsg, sPar, setAll, sRet, sRetN, sIf, sExpr, sAug, sSet, sSkip, sFor, sBreak, sCont, OutS.bindE, asg, asgs, partsD, StepR, Out.bind, eVar, eC, eBin, eUn, eIf, eAn, eOrr, eNt, eTup, eLst, lCons, lNil, eB, eLc, eCall, eMl, eMl0, eCut, oNone, oSome, dCut, eGet1, eGet2, eDict, pCons, pNil, eDicK, eDicT, eLrg1, eLrg2, rgIn1, rgIn2, tOf, asB, tTru, truthD, tNt, tAn, tOrr, itE, itD, itRange1, itRange2, itEnum, dAdd, dSub, dMulA, dMul, dFdiv, dMod, dNeg, dCmp, dLt, dLe, dGt, dGe, dIs, dMulI, dAddI, bAbs, bInt, bLen, bMax, bMin, bSum, bTuple, bList, isLst, List.getElem?_cons_zero, List.getElem?_cons_succ, List.getElem?_nil, List.set_cons_zero, List.set_cons_succ, if_true, if_false, Bool.false_eq_true, decide_eq_true_eq, List.map_cons, List.map_nil, List.replicate, List.length_cons, List.length_nil, List.cons_append, List.nil_append, wipeE, src_l e1, q1, q2, decide_false, src_st e1, src_t e1, src_t f1, src_m f1, mul1 (i := t + 1) (j := 104729) (by decide), mul1 (i := t + 1) (j := 17) (by decide), show (0 : Int) < 998244353 from by decide, show (0 : Int) < 2147483647 from by decide,
        mul1 (i := (m + (t + 1) * 104729) % 998244353) (j := (m + (t + 1) * 104729) % 998244353) (by have := g1 (m + (t + 1) * 104729); omega), src_sm f1, show ((0 : Int) < 16 ∧ (16 : Int).natAbs.log2 < 9000) from by decide, show (0 : Int) < many from by omega, and_self]
      rfl, Int.emod_nonneg _ (by omega), Int.emod_lt_of_pos _ (by omega), ⟨h.ne, cs, l, _, t + 1, by simp [hlt.1]; rfl, by rw [List.getElem?_set_ne h.ne, List.getElem?_set_ne h.ne]; exact e2, e3⟩, (b.trans (But.setS _ _)).trans (But.setS _ _)⟩
theorem cPick_ok {M : Store} {s c : Nat} {many : Int} (h : Src M s c) (h1 : 1 ≤ many) (h2 : many < 2 ^ 60) : PickR M s c many (cPick [some (.ref s), some (.int many), none, none] M) := by
  obtain ⟨cs0, _, _, _, hs, hc, e3⟩ := h.at_
  show PickR M s c many (match sWhile pickQ pickB FUEL [some (.ref s), some (.int many), none, none] M with
    | .nx eta' M' => pickR eta' M'
    | o => o)
  refine while_rule (c := pickQ) (b := pickB) (R := fun o => PickR M s c many (match o with
    | .nx eta' M' => pickR eta' M'
    | o => o)) (fun i eta M' => i ≤ 63 ∧ eta = [some (.ref s), some (.int many), none, none] ∧ But s c M M' ∧ s ≠ c ∧ ∃ (cs : List Int) (l m t : Int), M'[s]? = some (srcO c l m t) ∧ M'[c]? = some (.lst (cs.map D.int)) ∧ cs.length = i) (fun i eta M' ⟨hi, he, b, ne, cs, l, m, t, e1, e2, e3⟩ => ?_) FUEL (cs0 : List Int).length _ M (by unfold FUEL; omega) ⟨e3, rfl, But.refl _, h.ne, cs0, _, _, _, hs, hc, rfl⟩
  subst he
  have hR : PickR M s c many (pickR [some (.ref s), some (.int many), none, none] M') := pickR_ok ⟨ne, cs, l, m, t, e1, e2, by omega⟩ b h1 h2
  by_cases q1 : 1 < many
  · by_cases q2 : l < 2
    · rcases List.eq_nil_or_concat cs with q3 | ⟨ys, y, q3⟩
      · subst q3
        refine ⟨false, M', ?_, hR⟩
        unfold pickQ
        simp only [sSeq, sAsg, sPar, setAll, sRet, sRetN, sIf, sExpr, sAug, sSet, sSkip, sFor, sBreak, sCont, OutS.bindE, asg, asgs, partsD, StepR, Out.bind, eVar, eC, eBin, eUn, eIf, eAn, eOrr, eNt, eTup, eLst, lCons, lNil, eB, eLc, eCall, eMl, eMl0, eCut, oNone, oSome, dCut, eGet1, eGet2, eDict, pCons, pNil, eDicK, eDicT, eLrg1, eLrg2, rgIn1, rgIn2, tOf, asB, tTru, truthD, tNt, tAn, tOrr, itE, itD, itRange1, itRange2, itEnum, dAdd, dSub, dMulA, dMul, dFdiv, dMod, dNeg, dCmp, dLt, dLe, dGt, dGe, dIs, dMulI, dAddI, bAbs, bInt, bLen, bMax, bMin, bSum, bTuple, bList, isLst, List.getElem?_cons_zero, List.getElem?_cons_succ, List.getElem?_nil, List.set_cons_zero, List.set_cons_succ, if_true, if_false, Bool.false_eq_true, decide_eq_true_eq, List.map_cons, List.map_nil, List.replicate, List.length_cons, List.length_nil, List.cons_append, List.nil_append, wipeE, q1, q2, decide_true, src_l e1, src_c e1, e2, Int.natCast_zero, show ¬ ((0 : Int) < 0) from by decide, decide_false]
      · subst q3
        refine ⟨true, M', ?_, ?_⟩
        · unfold pickQ
          simp only [sSeq, sAsg, sPar, setAll, sRet, sRetN, sIf, sExpr, sAug, sSet, sSkip, sFor, sBreak, sCont, OutS.bindE, asg, asgs, partsD, StepR, Out.bind, eVar, eC, eBin, eUn, eIf, eAn, eOrr, eNt, eTup, eLst, lCons, lNil, eB, eLc, eCall, eMl, eMl0, eCut, oNone, oSome, dCut, eGet1, eGet2, eDict, pCons, pNil, eDicK, eDicT, eLrg1, eLrg2, rgIn1, rgIn2, tOf, asB, tTru, truthD, tNt, tAn, tOrr, itE, itD, itRange1, itRange2, itEnum, dAdd, dSub, dMulA, dMul, dFdiv, dMod, dNeg, dCmp, dLt, dLe, dGt, dGe, dIs, dMulI, dAddI, bAbs, bInt, bLen, bMax, bMin, bSum, bTuple, bList, isLst, List.getElem?_cons_zero, List.getElem?_cons_succ, List.getElem?_nil, List.set_cons_zero, List.set_cons_succ, if_true, if_false, Bool.false_eq_true, decide_eq_true_eq, List.map_cons, List.map_nil, List.replicate, List.length_cons, List.length_nil, List.cons_append, List.nil_append, wipeE, q1, q2, decide_true, src_l e1, src_c e1, e2, List.length_map, List.length_append, show ((0 : Int) < ((ys.concat y).length : Nat)) from by simp]
        · simp only [if_true]
          have hlt : s < M'.length ∧ c < M'.length := ⟨(List.getElem?_eq_some_iff.mp e1).1, (List.getElem?_eq_some_iff.mp e2).1⟩
          have hp : mPop (.ref c) [] M' = .ok (.int y) (M'.set c (.lst (ys.map D.int))) := by
            simp only [mPop, e2]
            simp
          have f1 : (M'.set c (.lst (ys.map D.int)))[s]? = some (srcO c l m t) := by rw [List.getElem?_set_ne (Ne.symm ne)]; exact e1
          have hb : pickB [some (.ref s), some (.int many), none, none] M' = .nx [some (.ref s), some (.int many), none, none] ((M'.set c (.lst (ys.map D.int))).set s (srcO c y m t)) := by
            unfold pickB
            simp only [sSeq, sAsg, sPar, setAll, sRet, sRetN, sIf, sExpr, sAug, sSet, sSkip, sFor, sBreak, sCont, OutS.bindE, asg, asgs, partsD, StepR, Out.bind, eVar, eC, eBin, eUn, eIf, eAn, eOrr, eNt, eTup, eLst, lCons, lNil, eB, eLc, eCall, eMl, eMl0, eCut, oNone, oSome, dCut, eGet1, eGet2, eDict, pCons, pNil, eDicK, eDicT, eLrg1, eLrg2, rgIn1, rgIn2, tOf, asB, tTru, truthD, tNt, tAn, tOrr, itE, itD, itRange1, itRange2, itEnum, dAdd, dSub, dMulA, dMul, dFdiv, dMod, dNeg, dCmp, dLt, dLe, dGt, dGe, dIs, dMulI, dAddI, bAbs, bInt, bLen, bMax, bMin, bSum, bTuple, bList, isLst, List.getElem?_cons_zero, List.getElem?_cons_succ, List.getElem?_nil, List.set_cons_zero, List.set_cons_succ, if_true, if_false, Bool.false_eq_true, decide_eq_true_eq, List.map_cons, List.map_nil, List.replicate, List.length_cons, List.length_nil, List.cons_append, List.nil_append, wipeE, src_c e1, e2, hp, src_sl f1]
          rw [hb]
          refine ⟨ys.length, by rw [← e3]; simp, by rw [List.length_concat] at e3; omega, rfl, (b.trans (But.setC _ _)).trans (But.setS _ _), ne, ys, y, m, t, by simp [hlt.1], by rw [List.getElem?_set_ne ne]; simp [hlt.2], rfl⟩
    · refine ⟨false, M', ?_, hR⟩
      unfold pickQ
      simp only [sSeq, sAsg, sPar, setAll, sRet, sRetN, sIf, sExpr, sAug, sSet, sSkip, sFor, sBreak, sCont, OutS.bindE, asg, asgs, partsD, StepR, Out.bind, eVar, eC, eBin, eUn, eIf, eAn, eOrr, eNt, eTup, eLst, lCons, lNil, eB, eLc, eCall, eMl, eMl0, eCut, oNone, oSome, dCut, eGet1, eGet2, eDict, pCons, pNil, eDicK, eDicT, eLrg1, eLrg2, rgIn1, rgIn2, tOf, asB, tTru, truthD, tNt, tAn, tOrr, itE, itD, itRange1, itRange2, itEnum, dAdd, dSub, dMulA, dMul, dFdiv, dMod, dNeg, dCmp, dLt, dLe, dGt, dGe, dIs, dMulI, dAddI, bAbs, bInt, bLen, bMax, bMin, bSum, bTuple, bList, isLst, List.getElem?_cons_zero, List.getElem?_cons_succ, List.getElem?_nil, List.set_cons_zero, List.set_cons_succ, if_true, if_false, Bool.false_eq_true, decide_eq_true_eq, List.map_cons, List.map_nil, List.replicate, List.length_cons, List.length_nil, List.cons_append, List.nil_append, wipeE, q1, q2, decide_true, src_l e1, decide_false]
  · refine ⟨false, M', ?_, hR⟩
    unfold pickQ
    simp only [sSeq, sAsg, sPar, setAll, sRet, sRetN, sIf, sExpr, sAug, sSet, sSkip, sFor, sBreak, sCont, OutS.bindE, asg, asgs, partsD, StepR, Out.bind, eVar, eC, eBin, eUn, eIf, eAn, eOrr, eNt, eTup, eLst, lCons, lNil, eB, eLc, eCall, eMl, eMl0, eCut, oNone, oSome, dCut, eGet1, eGet2, eDict, pCons, pNil, eDicK, eDicT, eLrg1, eLrg2, rgIn1, rgIn2, tOf, asB, tTru, truthD, tNt, tAn, tOrr, itE, itD, itRange1, itRange2, itEnum, dAdd, dSub, dMulA, dMul, dFdiv, dMod, dNeg, dCmp, dLt, dLe, dGt, dGe, dIs, dMulI, dAddI, bAbs, bInt, bLen, bMax, bMin, bSum, bTuple, bList, isLst, List.getElem?_cons_zero, List.getElem?_cons_succ, List.getElem?_nil, List.set_cons_zero, List.set_cons_succ, if_true, if_false, Bool.false_eq_true, decide_eq_true_eq, List.map_cons, List.map_nil, List.replicate, List.length_cons, List.length_nil, List.cons_append, List.nil_append, wipeE, q1, decide_false]
/-- the def, at any level: F is its entry -/
theorem pick_ok {P : List Fn} {k i : Nat} {F : Fn} {M : Store} {s c : Nat} {many : Int} (hF : P[i]? = some F) (hn : F.nn = 4) (hp : F.np = 2) (hb : F.body = fun _ => cPick) (h : Src M s c) (h1 : 1 ≤ many) (h2 : many < 2 ^ 60) :
    ∃ r M', tabOf P (k + 1) i [.ref s, .int many] M = .ok (.int r) M' ∧ 0 ≤ r ∧ r < many ∧ Src M' s c ∧ But s c M M' := by
  obtain ⟨r, M', e, g1, g2, g3, g4⟩ := cPick_ok h h1 h2
  refine ⟨r, M', ?_, g1, g2, g3, g4⟩
  rw [tab_at hF (by rw [hp]; rfl), hb, hn, hp]
  show finS M (cPick [some (.ref s), some (.int many), none, none] M) = _
  rw [e]
  have hk : keptOk M.length M M' = true := keptOk_of g4.len fun j m o e1 e2 => by
    obtain ⟨cs, l, mm, t, a1, a2, _⟩ := g3.at_
    have hlt := g3.lt
    rw [g4.len] at hlt
    by_cases hj : j = s
    · subst hj
      rw [a1] at e2; cases e2
      exact .inr (by simp [srcO, MO.low, lowL, D.low, hlt.2])
    · by_cases hj2 : j = c
      · subst hj2
        rw [a2] at e2; cases e2
        refine .inr ?_
        simp only [MO.low]
        have key : ∀ zs : List Int, lowL M.length (zs.map D.int) = true := fun zs => by
         induction zs with
         | nil => rfl
         | cons x xs ih => simp only [List.map_cons, lowL, D.low, Bool.true_and]; exact ih
        exact key cs
      · rw [g4.at_ j hj hj2, e1] at e2
        exact .inl (Option.some.inj e2).symm
  show gc M (.int r) M' = _
  unfold gc
  rw [if_pos hk, if_pos (show (D.int r).low M.length = true from rfl), ← g4.len, List.take_length]
end Ev

/-! Ev, part R: the source is made of the script. -/
namespace Ev
open PySem L2

def srcB : EvS := sAsg (.nm 1) (eBin dMod (eB bInt (lCons (eBin dAdd (eBin dAdd (eBin dMulA (eVar 1) (eC (.int 69069))) (eBin dMulA (eVar 2) (eC (.int 31)))) (eC (.int 5))) (lNil))) (eC (.int 2147483629)))
def srcE : EvE := eB bAbs (lCons (eVar 2) (lNil))
def srcD : EvE := eDict (pCons (eC (.str "cells")) (eUn dRev (eLc (itE (eVar 0)) (.nm 2) [2] (tYesE) srcE)) (pCons (eC (.str "left")) (eC (.int 1)) (pCons (eC (.str "mixed")) (eVar 1) (pCons (eC (.str "turn")) (eC (.int 0)) (pNil)))))
def cSrc : EvS :=
  sSeq (sAsg (.nm 1) (eC (.int 11))) (sSeq (sFor (itE (eVar 0)) (.nm 2) srcB) (sRet srcD))

theorem merge_src (c x : D) (y z : D) : mergeD [] [(Sum.inr "cells", c), (Sum.inr "left", x), (Sum.inr "mixed", y), (Sum.inr "turn", z)] = [(kC, c), (kL, x), (kM, y), (kT, z)] := by
  simp [mergeD, putD, m_cl, m_cm, m_ct, m_lm, m_lt, m_mt]
def SrcR (ns : List Int) (o : OutS) : Prop := ∃ M', o = .rt (.ref 1) M' ∧ ∃ A B C, M' = [.frz (ns.map D.int), A, B, C] ∧ Src M' 1 3
theorem cSrc_ok (ns : List Int) (h : ns.length ≤ 63) : SrcR ns (cSrc [some (.ref 0), none, none] [.frz (ns.map D.int)]) := by
  have fuel : 100 < FUEL := by unfold FUEL; decide
  have hlive : ∀ (i : Nat) (N : Store), itLive 0 i (.frz (ns.map D.int) :: N) = some (ns.map D.int)[i]? := fun i N => by simp [itLive, liveAt]
  unfold cSrc
  simp only [sSeq, sAsg, sPar, setAll, sRet, sRetN, sIf, sExpr, sAug, sSet, sSkip, sFor, sBreak, sCont, OutS.bindE, asg, asgs, partsD, StepR, Out.bind, eVar, eC, eBin, eUn, eIf, eAn, eOrr, eNt, eTup, eLst, lCons, lNil, eB, eLc, eCall, eMl, eMl0, eCut, oNone, oSome, dCut, eGet1, eGet2, eDict, pCons, pNil, eDicK, eDicT, eLrg1, eLrg2, rgIn1, rgIn2, tOf, asB, tTru, truthD, tNt, tAn, tOrr, itE, itD, itRange1, itRange2, itEnum, dAdd, dSub, dMulA, dMul, dFdiv, dMod, dNeg, dCmp, dLt, dLe, dGt, dGe, dIs, dMulI, dAddI, bAbs, bInt, bLen, bMax, bMin, bSum, bTuple, bList, isLst, List.getElem?_cons_zero, List.getElem?_cons_succ, List.getElem?_nil, List.set_cons_zero, List.set_cons_succ, if_true, if_false, Bool.false_eq_true, decide_eq_true_eq, List.map_cons, List.map_nil, List.replicate, List.length_cons, List.length_nil, List.cons_append, List.nil_append, wipeE, liveAt]
  refine for_ds (ns.map D.int) (R := fun o => SrcR ns (match o with
    | .nx eta' M' => sRet srcD eta' M'
    | o => o)) (fun i eta M => M = [.frz (ns.map D.int)] ∧ ∃ x j, eta = [some (.ref 0), some (.int x), j]) (by simp; omega) (fun i eta M hi => by rw [hi.1]; exact hlive i []) ⟨rfl, 11, none, rfl⟩ (fun i d eta M hd hi => ?_) (fun eta M hi => ?_)
  · obtain ⟨rfl, x, j, rfl⟩ := hi
    rw [List.getElem?_map] at hd
    obtain ⟨z, _, rfl⟩ := Option.map_eq_some_iff.mp hd
    refine ⟨[some (.ref 0), some (.int x), some (.int z)], rfl, ?_⟩
    unfold srcB
    simp only [sSeq, sAsg, sPar, setAll, sRet, sRetN, sIf, sExpr, sAug, sSet, sSkip, sFor, sBreak, sCont, OutS.bindE, asg, asgs, partsD, StepR, Out.bind, eVar, eC, eBin, eUn, eIf, eAn, eOrr, eNt, eTup, eLst, lCons, lNil, eB, eLc, eCall, eMl, eMl0, eCut, oNone, oSome, dCut, eGet1, eGet2, eDict, pCons, pNil, eDicK, eDicT, eLrg1, eLrg2, rgIn1, rgIn2, tOf, asB, tTru, truthD, tNt, tAn, tOrr, itE, itD, itRange1, itRange2, itEnum, dAdd, dSub, dMulA, dMul, dFdiv, dMod, dNeg, dCmp, dLt, dLe, dGt, dGe, dIs, dMulI, dAddI, bAbs, bInt, bLen, bMax, bMin, bSum, bTuple, bList, isLst, List.getElem?_cons_zero, List.getElem?_cons_succ, List.getElem?_nil, List.set_cons_zero, List.set_cons_succ, if_true, if_false, Bool.false_eq_true, decide_eq_true_eq, List.map_cons, List.map_nil, List.replicate, List.length_cons, List.length_nil, List.cons_append, List.nil_append, wipeE, mul1 (i := x) (j := 69069) (by decide), mul1 (i := z) (j := 31) (by decide), show (0 : Int) < 2147483629 from by decide]
    exact ⟨trivial, _, _, rfl⟩
  · obtain ⟨rfl, x, j, rfl⟩ := hi
    let ab : Nat → Int := fun i => if ns.getD i 0 < 0 then -ns.getD i 0 else ns.getD i 0
    have hlc := lc_pure (J := itLive 0) (t := .nm 2) (vs := [2]) (f := srcE) (eta := [some (.ref 0), some (.int x), j]) (M := [.frz (ns.map D.int), .dicK []]) ns.length (fun i => .int (ns.getD i 0)) (fun i => .int (ab i)) (by unfold cap; omega)
      (fun i acc hi => by rw [List.cons_append, hlive]; simp [hi, List.getElem?_eq_getElem hi]) (fun acc => by rw [List.cons_append, hlive]; simp) (fun i acc hi => ⟨[some (.ref 0), some (.int x), some (.int (ns.getD i 0))], rfl, by unfold srcE; simp only [sSeq, sAsg, sPar, setAll, sRet, sRetN, sIf, sExpr, sAug, sSet, sSkip, sFor, sBreak, sCont, OutS.bindE, asg, asgs, partsD, StepR, Out.bind, eVar, eC, eBin, eUn, eIf, eAn, eOrr, eNt, eTup, eLst, lCons, lNil, eB, eLc, eCall, eMl, eMl0, eCut, oNone, oSome, dCut, eGet1, eGet2, eDict, pCons, pNil, eDicK, eDicT, eLrg1, eLrg2, rgIn1, rgIn2, tOf, asB, tTru, truthD, tNt, tAn, tOrr, itE, itD, itRange1, itRange2, itEnum, dAdd, dSub, dMulA, dMul, dFdiv, dMod, dNeg, dCmp, dLt, dLe, dGt, dGe, dIs, dMulI, dAddI, bAbs, bInt, bLen, bMax, bMin, bSum, bTuple, bList, isLst, List.getElem?_cons_zero, List.getElem?_cons_succ, List.getElem?_nil, List.set_cons_zero, List.set_cons_succ, if_true, if_false, Bool.false_eq_true, decide_eq_true_eq, List.map_cons, List.map_nil, List.replicate, List.length_cons, List.length_nil, List.cons_append, List.nil_append, wipeE]; rfl⟩)
    have h1 : (eUn dRev (eLc (itE (eVar 0)) (.nm 2) [2] (tYesE) srcE)) [some (.ref 0), some (.int x), j] [.frz (ns.map D.int), .dicK []] = .ok (.ref 3) [.frz (ns.map D.int), .dicK [], .lst ((List.range ns.length).map fun i => D.int (ab i)), .lst ((List.range ns.length).map fun i => D.int (ab i)).reverse] := by
      have g : (eLc (itE (eVar 0)) (.nm 2) [2] (tYesE) srcE) [some (.ref 0), some (.int x), j] [.frz (ns.map D.int), .dicK []] = .ok (.ref 2) [.frz (ns.map D.int), .dicK [], .lst ((List.range ns.length).map fun i => D.int (ab i))] := hlc
      simp only [eUn, g, Out.bind]
      rfl
    have e : srcD [some (.ref 0), some (.int x), j] [.frz (ns.map D.int)] = .ok (.ref 1) [.frz (ns.map D.int), srcO 3 1 x 0, .lst ((List.range ns.length).map fun i => D.int (ab i)), .lst ((List.range ns.length).map fun i => D.int (ab i)).reverse] := by
      have h2 : (pCons (eC (.str "cells")) (eUn dRev (eLc (itE (eVar 0)) (.nm 2) [2] (tYesE) srcE)) (pCons (eC (.str "left")) (eC (.int 1)) (pCons (eC (.str "mixed")) (eVar 1) (pCons (eC (.str "turn")) (eC (.int 0)) (pNil))))) [some (.ref 0), some (.int x), j] ([.frz (ns.map D.int)] ++ [.dicK []])
          = .ok [(.str "cells", .ref 3), (.str "left", .int 1), (.str "mixed", .int x), (.str "turn", .int 0)] [.frz (ns.map D.int), .dicK [], .lst ((List.range ns.length).map fun i => D.int (ab i)), .lst ((List.range ns.length).map fun i => D.int (ab i)).reverse] := by
        simp only [pCons, pNil, eC, eVar, Out.bind, List.cons_append, List.nil_append, h1, List.getElem?_cons_succ, List.getElem?_cons_zero]
      unfold srcD eDict
      rw [h2]
      simp only [Out.bind, List.length_cons, List.length_nil, List.getElem?_cons_succ, List.getElem?_cons_zero, keysOf, keyK, merge_src]
      rfl
    show SrcR ns (sRet srcD [some (.ref 0), some (.int x), j] [.frz (ns.map D.int)])
    simp only [sSeq, sAsg, sPar, setAll, sRet, sRetN, sIf, sExpr, sAug, sSet, sSkip, sFor, sBreak, sCont, OutS.bindE, asg, asgs, partsD, StepR, Out.bind, eVar, eC, eBin, eUn, eIf, eAn, eOrr, eNt, eTup, eLst, lCons, lNil, eB, eLc, eCall, eMl, eMl0, eCut, oNone, oSome, dCut, eGet1, eGet2, eDict, pCons, pNil, eDicK, eDicT, eLrg1, eLrg2, rgIn1, rgIn2, tOf, asB, tTru, truthD, tNt, tAn, tOrr, itE, itD, itRange1, itRange2, itEnum, dAdd, dSub, dMulA, dMul, dFdiv, dMod, dNeg, dCmp, dLt, dLe, dGt, dGe, dIs, dMulI, dAddI, bAbs, bInt, bLen, bMax, bMin, bSum, bTuple, bList, isLst, List.getElem?_cons_zero, List.getElem?_cons_succ, List.getElem?_nil, List.set_cons_zero, List.set_cons_succ, if_true, if_false, Bool.false_eq_true, decide_eq_true_eq, List.map_cons, List.map_nil, List.replicate, List.length_cons, List.length_nil, List.cons_append, List.nil_append, wipeE, e]
    refine ⟨_, rfl, _, _, _, rfl, by decide, ((List.range ns.length).map ab).reverse, 1, x, 0, rfl, ?_, by simpa using h⟩
    simp
theorem src_ok {P : List Fn} {k i : Nat} {F : Fn} {ns : List Int} (hF : P[i]? = some F) (hn : F.nn = 3) (hp : F.np = 1) (hb : F.body = fun _ => cSrc) (h : ns.length ≤ 63) :
    ∃ A B C, tabOf P (k + 1) i [.ref 0] [.frz (ns.map D.int)] = .ok (.ref 1) [.frz (ns.map D.int), A, B, C] ∧ Src [.frz (ns.map D.int), A, B, C] 1 3 := by
  obtain ⟨M', e, A, B, C, rfl, hs⟩ := cSrc_ok ns h
  refine ⟨A, B, C, ?_, hs⟩
  rw [tab_at hF (by rw [hp]; rfl), hb, hn, hp]
  show finS _ (cSrc [some (.ref 0), none, none] _) = _
  rw [e]
  obtain ⟨cs, l, m, t, a1, a2, _⟩ := hs.at_
  have a1' : A = srcO 3 l m t := by simpa using a1
  subst a1'
  show gc [.frz (ns.map D.int)] (.ref 1) ([.frz (ns.map D.int)] ++ [srcO 3 l m t, B, C]) = _
  unfold gc
  rw [if_pos (keptOk_app _ _ _), if_neg (by simp [D.low])]
  simp [srcO, MO.low, lowL, D.low]
end Ev

/-! Ev, part T: loops and comprehensions over ints, as equations. -/
namespace Ev
open PySem L2

theorem seq_nx {f g : EvS} {eta eta' : Env} {M M' : Store} (h : f eta M = .nx eta' M') : sSeq f g eta M = g eta' M' := by simp only [sSeq, h]
theorem seq_rt {f g : EvS} {eta : Env} {d : D} {M M' : Store} (h : f eta M = .rt d M') : sSeq f g eta M = .rt d M' := by simp only [sSeq, h]
theorem asg_ok {f : EvE} {i : Nat} {eta : Env} {d : D} {M M' : Store} (h : f eta M = .ok d M') : sAsg (.nm i) f eta M = .nx (eta.set i (some d)) M' := by simp only [sAsg, h, OutS.bindE, asg]
theorem ret_ok {f : EvE} {eta : Env} {d : D} {M M' : Store} (h : f eta M = .ok d M') : sRet f eta M = .rt d M' := by simp only [sRet, h, OutS.bindE]
theorem if_ok {c : EvT} {f g : EvS} {eta : Env} {k : Bool} {M M' : Store} (h : c eta M = .ok k M') : sIf c f g eta M = if k = true then f eta M' else g eta M' := by simp only [sIf, h, OutS.bindE]
theorem call1 {T : Tab} {i : Nat} {f : EvE} {eta : Env} {d : D} {M M' : Store} (h : f eta M = .ok d M') : eCall T i (lCons f lNil) eta M = T i [d] M' := by simp only [eCall, lCons, lNil, h, Out.bind]
theorem bin_ok {op : D → D → Store → Out D} {f g : EvE} {eta : Env} {x y : D} {M M1 M2 : Store} (h1 : f eta M = .ok x M1) (h2 : g eta M1 = .ok y M2) : eBin op f g eta M = op x y M2 := by simp only [eBin, h1, h2, Out.bind]
theorem b1_ok {op : List D → Store → Out D} {f : EvE} {eta : Env} {x : D} {M M1 : Store} (h1 : f eta M = .ok x M1) : eB op (lCons f lNil) eta M = op [x] M1 := by simp only [eB, lCons, lNil, h1, Out.bind]

section
variable {f g h : EvE} {l l' : EvL} {c c' : EvT} {eta eta' : Env} {M M1 M2 M3 : Store} {d x y z : D} {ds : List D} {b b' : Bool} {T : Tab} {i j : Nat} {bd : EvS} {G : List D → Store → Out D} {Hm : D → List D → Store → Out D} {op : D → D → Store → Out D} {r : Out D}
theorem l0_ok : lNil eta M = .ok [] M := rfl
theorem lc_ok (h1 : f eta M = .ok d M1) (h2 : l eta M1 = .ok ds M2) : lCons f l eta M = .ok (d :: ds) M2 := by simp only [lCons, h1, h2, Out.bind]
theorem l1_ok (h1 : f eta M = .ok d M1) : lCons f lNil eta M = .ok [d] M1 := lc_ok h1 rfl
theorem l2_ok (h1 : f eta M = .ok d M1) (h2 : g eta M1 = .ok x M2) : lCons f (lCons g lNil) eta M = .ok [d, x] M2 := lc_ok h1 (l1_ok h2)
theorem callL_ok (h1 : l eta M = .ok ds M1) (h2 : T i ds M1 = r) : eCall T i l eta M = r := by simp only [eCall, h1, Out.bind, h2]
theorem bL_ok (h1 : l eta M = .ok ds M1) (h2 : G ds M1 = r) : eB G l eta M = r := by simp only [eB, h1, Out.bind, h2]
theorem ml_ok (h1 : f eta M = .ok x M1) (h2 : isLst x M1 = true) (h3 : l eta M1 = .ok ds M2) (h4 : Hm x ds M2 = r) : eMl Hm f l eta M = r := by simp only [eMl, h1, h2, h3, Out.bind, if_true, h4]
theorem ml0_ok (h1 : f eta M = .ok x M1) (h2 : isLst x M1 = true) (h4 : Hm x [] M1 = r) : eMl0 Hm f eta M = r := by simp only [eMl0, h1, h2, Out.bind, if_true, h4]
theorem expr_ok (h1 : f eta M = .ok d M1) : sExpr f eta M = .nx eta M1 := by simp only [sExpr, h1, OutS.bindE]
theorem bi_ok (h1 : f eta M = .ok x M1) (h2 : g eta M1 = .ok y M2) (h3 : op x y M2 = r) : eBin op f g eta M = r := by simp only [eBin, h1, h2, Out.bind, h3]
theorem tOf_ok (h1 : f eta M = .ok (.bl b) M1) : tOf f eta M = .ok b M1 := by simp only [tOf, h1, Out.bind, asB]
theorem tAn_ok (h1 : c eta M = .ok true M1) (h2 : c' eta M1 = .ok b M2) : tAn c c' eta M = .ok b M2 := by simp only [tAn, h1, Out.bind, if_true, h2]
theorem tAn_no (h1 : c eta M = .ok false M1) : tAn c c' eta M = .ok false M1 := by simp only [tAn, h1, Out.bind, Bool.false_eq_true, if_false]
theorem tOrr_no (h1 : c eta M = .ok false M1) (h2 : c' eta M1 = .ok b M2) : tOrr c c' eta M = .ok b M2 := by simp only [tOrr, h1, Out.bind, Bool.false_eq_true, if_false, h2]
theorem tOrr_ok (h1 : c eta M = .ok true M1) : tOrr c c' eta M = .ok true M1 := by simp only [tOrr, h1, Out.bind, if_true]
theorem par2_ok (h1 : l eta M = .ok [x, y] M1) : sPar [i, j] l eta M = .nx ((eta.set i (some x)).set j (some y)) M1 := by simp only [sPar, h1, OutS.bindE, setAll]
theorem aug_ok (h0 : eta[i]? = some (some x)) (h1 : f eta M = .ok y M1) (h2 : op x y M1 = .ok z M2) : sAug i op f eta M = .nx (eta.set i (some z)) M2 := by simp only [sAug, h0, h1, h2, Out.bind, OutS.bindE]
theorem set_ok (h1 : f eta M = .ok d M1) (h2 : g eta M1 = .ok x M2) (h3 : h eta M2 = .ok y M3) {M4 : Store} (h4 : setD x y d M3 = .ok () M4) : sSet g h f eta M = .nx eta M4 := by simp only [sSet, h1, h2, h3, h4, Out.bind, OutS.bindE]
theorem tup_ok (h1 : l eta M = .ok ds M1) (h2 : ds.length ≤ cap) : eTup l eta M = .ok (.tup ds) M1 := by simp only [eTup, h1, Out.bind, if_pos h2]
theorem lst_ok (h1 : l eta M = .ok ds M1) (h2 : ds.length ≤ cap) : eLst l eta M = .ok (.ref M1.length) (M1 ++ [.lst ds]) := by simp only [eLst, h1, Out.bind, if_pos h2]
theorem an_ok (h1 : f eta M = .ok (.bl true) M1) (h2 : g eta M1 = r) : eAn f g eta M = r := by simp only [eAn, h1, Out.bind, truthD, if_true, h2]
theorem if_no {bd' : EvS} (h : c eta M = .ok false M1) : sIf c bd bd' eta M = bd' eta M1 := by rw [if_ok h]; rfl
theorem if_yes {bd' : EvS} (h : c eta M = .ok true M1) : sIf c bd bd' eta M = bd eta M1 := by rw [if_ok h]; rfl
theorem eif_ok (h1 : c eta M = .ok b M1) : eIf c f g eta M = if b = true then f eta M1 else g eta M1 := by simp only [eIf, h1, Out.bind]
end
theorem range2_ok {a b : EvE} {i j : Int} {eta : Env} {M : Store} (ha : a eta M = .ok (.int i) M) (hb : b eta M = .ok (.int j) M) (hr : 0 ≤ i ∧ i < 1000 ∧ 0 ≤ j ∧ j < 1000) : itRange2 (lCons a (lCons b lNil)) eta M = .ok (itRg i (j - i).toNat) M := by
  have h : -(2 ^ 62) ≤ i ∧ i < 2 ^ 62 ∧ -(2 ^ 62) ≤ j ∧ j < 2 ^ 62 := by
    have : (2 : Int) ^ 62 = 4611686018427387904 := by decide
    omega
  simp only [itRange2, lCons, lNil, ha, hb, Out.bind, if_pos h]
theorem range1_ok {b : EvE} {j : Int} {eta : Env} {M : Store} (hb : b eta M = .ok (.int j) M) (hr : 0 ≤ j ∧ j < 1000) : itRange1 (lCons b lNil) eta M = .ok (itRg 0 j.toNat) M := by
  have h : -(2 ^ 62) ≤ j ∧ j < 2 ^ 62 := by
    have : (2 : Int) ^ 62 = 4611686018427387904 := by decide
    omega
  simp only [itRange1, lCons, lNil, hb, Out.bind, if_pos h]

/-- a for loop over a range that no turn leaves -/
theorem sfor_rg {it : EvIt} {lo : Int} {n : Nat} {t : Tgt} {b : EvS} {eta : Env} {M : Store} (hit : it eta M = .ok (itRg lo n) M) (hn : n ≤ 1000) (I : Nat → Env → Store → Prop) (h0 : I 0 eta M)
    (step : ∀ i eta M, i < n → I i eta M → ∃ eta1, asg M t (.int (lo + i)) eta = some eta1 ∧ ∃ eta' M', b eta1 M = .nx eta' M' ∧ I (i + 1) eta' M') : ∃ eta' M', sFor it t b eta M = .nx eta' M' ∧ I n eta' M' := by
  have := for_rg (t := t) (b := b) (R := fun o => ∃ eta' M', o = .nx eta' M' ∧ I n eta' M') I (show n < FUEL by unfold FUEL; omega) h0 (fun i e N hi hI => by
    obtain ⟨eta1, h1, e', N', h2, h3⟩ := step i e N hi hI
    exact ⟨eta1, h1, by rw [h2]; exact h3⟩) (fun e N hI => ⟨e, N, rfl, hI⟩) (lo := lo)
  obtain ⟨e', N', h1, h2⟩ := this
  exact ⟨e', N', by simp only [sFor, hit, OutS.bindE, h1], h2⟩
/-- .. over members that are known; the turns may leave it: R of the whole -/
theorem sfor_ds {it : EvIt} {J : Iter} (ds : List D) {t : Tgt} {b : EvS} {R : OutS → Prop} {eta : Env} {M M1 : Store} (hit : it eta M = .ok J M1) (I : Nat → Env → Store → Prop) (hn : ds.length ≤ 1000000) (hJ : ∀ i eta M, I i eta M → J i M = some ds[i]?) (h0 : I 0 eta M1)
    (step : ∀ i d eta M, ds[i]? = some d → I i eta M → ∃ eta1, asg M t d eta = some eta1 ∧ StepR (I (i + 1)) R (b eta1 M)) (hend : ∀ eta M, I ds.length eta M → R (.nx eta M)) : R (sFor it t b eta M) := by
  have := for_ds ds (R := R) I (show ds.length < FUEL by unfold FUEL; omega) hJ h0 step hend
  simp only [sFor, hit, OutS.bindE]
  exact this
theorem lcI_rg {it : EvIt} {lo : Int} {n : Nat} {j : Nat} {f : EvE} {eta : Env} {M : Store} (g : Nat → Int) (hit : it eta M = .ok (itRg lo n) M) (hn : n ≤ 1000)
    (step : ∀ i acc, i < n → f ((eta.set j none).set j (some (.int (lo + i)))) (M ++ [.lst acc]) = .ok (.int (g i)) (M ++ [.lst acc])) : eLc it (.nm j) [j] tYesE f eta M = .ok (.ref M.length) (M ++ [.lst (((List.range n).map g).map D.int)]) := by
  have h := lc_pure (J := itRg lo n) (t := .nm j) (vs := [j]) (f := f) (eta := eta) (M := M) n (fun i => .int (lo + (i : Int))) (fun i => .int (g i)) (by unfold cap; omega) (fun i acc hi => by simp [itRg, hi]) (fun acc => by simp [itRg]) (fun i acc hi => ⟨_, rfl, step i acc hi⟩)
  simp only [eLc, hit, Out.bind, h, List.map_map]
  rfl
theorem lcI_rgf {it : EvIt} {lo : Int} {n : Nat} {j : Nat} {c : EvT} {f : EvE} {eta : Env} {M : Store} (q : Nat → Bool) (g : Nat → Int) (hit : it eta M = .ok (itRg lo n) M) (hn : n ≤ 1000)
    (step : ∀ i acc, i < n → c ((eta.set j none).set j (some (.int (lo + i)))) (M ++ [.lst acc]) = .ok (q i) (M ++ [.lst acc]) ∧ (q i = true → f ((eta.set j none).set j (some (.int (lo + i)))) (M ++ [.lst acc]) = .ok (.int (g i)) (M ++ [.lst acc]))) :
    eLc it (.nm j) [j] c f eta M = .ok (.ref M.length) (M ++ [.lst ((((List.range n).filter q).map g).map D.int)]) := by
  have h := lc_filter (J := itRg lo n) (t := .nm j) (vs := [j]) (c := c) (f := f) (eta := eta) (M := M) n (fun i => .int (lo + (i : Int))) q (fun i => .int (g i)) (by unfold cap; omega) (fun i acc hi => by simp [itRg, hi]) (fun acc => by simp [itRg]) (fun i acc hi => ⟨_, rfl, step i acc hi⟩)
  simp only [eLc, hit, Out.bind, h, List.map_map]
  rfl
theorem lcI_ints {e : EvE} {n : Nat} {j : Nat} {f : EvE} {eta : Env} {M M1 : Store} (L : List Int) (g : Int → Int) (he : e eta M = .ok (.ref n) M1) (hl : M1[n]? = some (.lst (L.map D.int))) (hn : L.length ≤ 1000)
    (step : ∀ x acc, x ∈ L → f ((eta.set j none).set j (some (.int x))) (M1 ++ [.lst acc]) = .ok (.int (g x)) (M1 ++ [.lst acc])) : eLc (itE e) (.nm j) [j] tYesE f eta M = .ok (.ref M1.length) (M1 ++ [.lst ((L.map g).map D.int)]) := by
  have hJ : ∀ (i : Nat) (acc : List D), itLive n i (M1 ++ [.lst acc]) = some (L.map D.int)[i]? := fun i acc => by simp only [itLive, liveAt, app_old hl, Option.map_some]
  have h := lc_pure (J := itLive n) (t := .nm j) (vs := [j]) (f := f) (eta := eta) (M := M1) L.length (fun i => .int (L.getD i 0)) (fun i => .int (g (L.getD i 0))) (by unfold cap; omega)
    (fun i acc hi => by rw [hJ]; simp [hi, List.getElem?_eq_getElem hi]) (fun acc => by rw [hJ]; simp) (fun i acc hi => ⟨_, rfl, step _ acc (by simp [hi, List.getElem?_eq_getElem hi])⟩)
  have e2 : (List.range L.length).map (fun i => D.int (g (L.getD i 0))) = (L.map g).map D.int := by
    apply List.ext_getElem?
    intro i
    rw [List.getElem?_map, List.getElem?_map, List.getElem?_map]
    by_cases hi : i < L.length
    · simp [hi, List.getElem?_eq_getElem hi]
    · simp [List.getElem?_eq_none (show L.length ≤ i by omega), List.getElem?_eq_none (show (List.range L.length).length ≤ i by simp; omega)]
  have hit : itE e eta M = .ok (itLive n) M1 := by simp only [itE, he, Out.bind, itD, liveAt, hl]
  simp only [eLc, hit, Out.bind]
  rw [h, e2]
theorem lowL_ints (k : Nat) : ∀ L : List Int, lowL k (L.map D.int) = true
  | [] => rfl
  | x :: L => by simp only [List.map_cons, lowL, D.low, Bool.true_and]; exact lowL_ints k L
/-- a def hands back a new list of ints -/
theorem fin_ints {M N : Store} {n : Nat} {L : List Int} (hn : M.length ≤ n) (h : (M ++ N)[n]? = some (.lst (L.map D.int))) : finS M (.rt (.ref n) (M ++ N)) = .ok (.ref M.length) (M ++ [.lst (L.map D.int)]) :=
  gc_new hn h rfl (lowL_ints _ _)
theorem fin_int {M N : Store} {i : Int} : finS M (.rt (.int i) (M ++ N)) = .ok (.int i) M := gc_old rfl
theorem fin_int0 {M : Store} {i : Int} : finS M (.rt (.int i) M) = .ok (.int i) M := gc_old0 rfl
end Ev

namespace Ev
open PySem PySem.Spec PyProof.Rows L2
def topAt (i : Nat) : Stmt := PySem.Challenge.pw_lumpplans_k59_whole_sums_of_counts.main.body.getD i (.Pass ⟨0, 0, 0, 0⟩)
abbrev st0 : Stmt := topAt 1
abbrev nm0 : List Str := ["m", "counts", "size", "k"]
def d0_e0 (t : Tab) : EvE := eBin dMulA (eBin dIx (eVar 1) (eVar 3)) (eBin dIx (eVar 1) (eBin dSub (eVar 2) (eVar 3)))
def d0_b0 (t : Tab) : EvS := sExpr (eMl mAppend (eVar 1) (lCons (eB bSum (lCons (eLc (itRange2 (lCons (eC (.int 1)) (lCons (eVar 2) (lNil)))) (.nm 3) [3] (tYesE) (d0_e0 t)) (lNil))) (lNil)))
/-- shape_counts -/
def d0 (t : Tab) : EvS :=
  sSeq (sAsg (.nm 1) (eLst (lCons (eC (.int 0)) (lCons (eC (.int 1)) (lNil))))) (sSeq (sFor (itRange2 (lCons (eC (.int 2)) (lCons (eBin dAdd (eVar 0) (eC (.int 1))) (lNil)))) (.nm 2) (d0_b0 t)) (sRet (eVar 1)))
abbrev st1 : Stmt := topAt 3
abbrev nm1 : List Str := ["size", "counts", "found", "m"]
def d1_b0 (t : Tab) : EvS := sAug 2 dMulI (eBin dIx (eVar 1) (eVar 3))
/-- count_tables -/
def d1 (t : Tab) : EvS :=
  sSeq (sPar [1, 2] (lCons (eCall t 0 (lCons (eVar 0) (lNil))) (lCons (eC (.int 1)) (lNil)))) (sSeq (sFor (itRange2 (lCons (eC (.int 2)) (lCons (eBin dAdd (eVar 0) (eC (.int 1))) (lNil)))) (.nm 3) (d1_b0 t)) (sRet (eVar 2)))
abbrev st2 : Stmt := topAt 4
abbrev nm2 : List Str := ["size", "b"]
def d2_q0 (t : Tab) : EvT := tOf (eBin (dEq false) (eBin dMod (eVar 0) (eVar 1)) (eC (.int 0)))
def d2_e0 (t : Tab) : EvE := eVar 1
/-- first_sizes -/
def d2 (t : Tab) : EvS :=
  sRet (eLc (itRange2 (lCons (eC (.int 2)) (lCons (eBin dAdd (eBin dFdiv (eVar 0) (eC (.int 2))) (eC (.int 1))) (lNil)))) (.nm 1) [1] (d2_q0 t) (d2_e0 t))
abbrev st3 : Stmt := topAt 5
abbrev nm3 : List Str := ["size", "b"]
def d3_e0 (t : Tab) : EvE := eBin dMulA (eCall t 3 (lCons (eVar 1) (lNil))) (eCall t 1 (lCons (eBin dFdiv (eVar 0) (eVar 1)) (lNil)))
/-- count_primes -/
def d3 (t : Tab) : EvS :=
  sRet (eBin dSub (eCall t 1 (lCons (eVar 0) (lNil))) (eB bSum (lCons (eLc (itE (eCall t 2 (lCons (eVar 0) (lNil)))) (.nm 1) [1] (tYesE) (d3_e0 t)) (lNil))))
abbrev st4 : Stmt := topAt 6
abbrev nm4 : List Str := ["size", "k", "b"]
def d4_e0 (t : Tab) : EvE := eBin dMulA (eCall t 3 (lCons (eVar 2) (lNil))) (eCall t 4 (lCons (eBin dFdiv (eVar 0) (eVar 2)) (lCons (eBin dSub (eVar 1) (eC (.int 1))) (lNil))))
/-- count_glued -/
def d4 (t : Tab) : EvS :=
  sSeq (sIf (tOf (eBin (dEq false) (eVar 1) (eC (.int 1)))) (sRet (eCall t 3 (lCons (eVar 0) (lNil)))) (sSkip)) (sRet (eB bSum (lCons (eLc (itE (eCall t 2 (lCons (eVar 0) (lNil)))) (.nm 2) [2] (tYesE) (d4_e0 t)) (lNil))))
abbrev st5 : Stmt := topAt 8
abbrev nm5 : List Str := ["_law_script", "_law_mixed_here", "_law_cell"]
def d5_b0 (t : Tab) : EvS := sAsg (.nm 1) (eBin dMod (eB bInt (lCons (eBin dAdd (eBin dAdd (eBin dMulA (eVar 1) (eC (.int 69069))) (eBin dMulA (eVar 2) (eC (.int 31)))) (eC (.int 5))) (lNil))) (eC (.int 2147483629)))
def d5_e0 (t : Tab) : EvE := eB bAbs (lCons (eVar 2) (lNil))
/-- _law_source -/
def d5 (t : Tab) : EvS :=
  sSeq (sAsg (.nm 1) (eC (.int 11))) (sSeq (sFor (itE (eVar 0)) (.nm 2) (d5_b0 t)) (sRet (eDict (pCons (eC (.str "cells")) (eUn dRev (eLc (itE (eVar 0)) (.nm 2) [2] (tYesE) (d5_e0 t))) (pCons (eC (.str "left")) (eC (.int 1)) (pCons (eC (.str "mixed")) (eVar 1) (pCons (eC (.str "turn")) (eC (.int 0)) (pNil))))))))
abbrev st6 : Stmt := topAt 9
abbrev nm6 : List Str := ["_law_source_here", "_law_many", "_law_left", "_law_mixed_here"]
def d6_q0 (t : Tab) : EvT := tAn (tOf (eBin dGt (eVar 1) (eC (.int 1)))) (tAn (tOf (eBin dLt (eBin dIx (eVar 0) (eC (.str "left"))) (eC (.int 2)))) (tOf (eBin dGt (eB bLen (lCons (eBin dIx (eVar 0) (eC (.str "cells"))) (lNil))) (eC (.int 0)))))
def d6_b0 (t : Tab) : EvS := sSet (eVar 0) (eC (.str "left")) (eMl0 mPop (eBin dIx (eVar 0) (eC (.str "cells"))))
/-- _law_pick -/
def d6 (t : Tab) : EvS :=
  sSeq (sWhile (d6_q0 t) (d6_b0 t) FUEL) (sSeq (sAsg (.nm 2) (eBin dIx (eVar 0) (eC (.str "left")))) (sSeq (sIf (tOrr (tOf (eBin dLt (eVar 1) (eC (.int 2)))) (tOf (eBin dGt (eVar 2) (eC (.int 1))))) (sSeq (sSet (eVar 0) (eC (.str "left")) (eBin dFdiv (eVar 2) (eB bMax (lCons (eC (.int 1)) (lCons (eVar 1) (lNil)))))) (sRet (eBin dMod (eB bInt (lCons (eVar 2) (lNil))) (eB bMax (lCons (eC (.int 1)) (lCons (eVar 1) (lNil))))))) (sSkip)) (sSeq (sSet (eVar 0) (eC (.str "turn")) (eBin dAdd (eBin dIx (eVar 0) (eC (.str "turn"))) (eC (.int 1)))) (sSeq (sAsg (.nm 3) (eBin dMod (eB bInt (lCons (eBin dAdd (eBin dIx (eVar 0) (eC (.str "mixed"))) (eBin dMulA (eBin dIx (eVar 0) (eC (.str "turn"))) (eC (.int 104729)))) (lNil))) (eC (.int 998244353)))) (sSeq (sAsg (.nm 3) (eBin dMod (eB bInt (lCons (eBin dAdd (eBin dMulA (eVar 3) (eVar 3)) (eBin dMulA (eBin dIx (eVar 0) (eC (.str "turn"))) (eC (.int 17)))) (lNil))) (eC (.int 2147483647)))) (sSeq (sSet (eVar 0) (eC (.str "mixed")) (eVar 3)) (sRet (eBin dMod (eB bInt (lCons (eBin dFdiv (eVar 3) (eC (.int 16))) (lNil))) (eVar 1)))))))))
abbrev st7 : Stmt := topAt 10
abbrev nm7 : List Str := ["_law_source_here", "_law_things", "_law_rest", "_law_lap"]
def d7_e0 (t : Tab) : EvE := eMl mPop (eVar 2) (lCons (eCall t 6 (lCons (eVar 0) (lCons (eB bLen (lCons (eVar 2) (lNil))) (lNil)))) (lNil))
/-- _law_mixed -/
def d7 (t : Tab) : EvS :=
  sSeq (sAsg (.nm 2) (eB bList (lCons (eVar 1) (lNil)))) (sRet (eLc (itRange1 (lCons (eB bLen (lCons (eVar 2) (lNil))) (lNil))) (.nm 3) [3] (tYesE) (d7_e0 t)))
abbrev st8 : Stmt := topAt 11
abbrev nm8 : List Str := ["_law_most", "_law_found", "_law_m"]
def d8_b0 (t : Tab) : EvS := sExpr (eMl mAppend (eVar 1) (lCons (eBin dFdiv (eBin dMulA (eBin dIx (eVar 1) (eUn dNeg (eC (.int 1)))) (eBin dSub (eBin dMulA (eC (.int 4)) (eVar 2)) (eC (.int 6)))) (eVar 2)) (lNil)))
/-- _law_counts -/
def d8 (t : Tab) : EvS :=
  sSeq (sAsg (.nm 1) (eLst (lCons (eC (.int 0)) (lCons (eC (.int 1)) (lNil))))) (sSeq (sFor (itRange2 (lCons (eC (.int 2)) (lCons (eBin dAdd (eVar 0) (eC (.int 1))) (lNil)))) (.nm 2) (d8_b0 t)) (sRet (eVar 1)))
abbrev st9 : Stmt := topAt 12
abbrev nm9 : List Str := ["_law_counts_here", "_law_size", "_law_found", "_law_m"]
def d9_b0 (t : Tab) : EvS := sAsg (.nm 2) (eBin dMulA (eVar 2) (eBin dIx (eVar 0) (eVar 3)))
/-- _law_many_tables -/
def d9 (t : Tab) : EvS :=
  sSeq (sAsg (.nm 2) (eC (.int 1))) (sSeq (sFor (itRange2 (lCons (eC (.int 2)) (lCons (eBin dAdd (eVar 1) (eC (.int 1))) (lNil)))) (.nm 3) (d9_b0 t)) (sRet (eVar 2)))
abbrev st10 : Stmt := topAt 13
abbrev nm10 : List Str := ["_law_counts_here", "_law_size", "_law_found", "_law_m", "_law_b"]
def d10_b0 (t : Tab) : EvS := sIf (tOf (eBin (dEq false) (eBin dMod (eB bInt (lCons (eVar 3) (lNil))) (eVar 4)) (eC (.int 0)))) (sSet (eVar 2) (eVar 3) (eBin dSub (eBin dIx (eVar 2) (eVar 3)) (eBin dMulA (eBin dIx (eVar 2) (eVar 4)) (eCall t 9 (lCons (eVar 0) (lCons (eBin dFdiv (eVar 3) (eVar 4)) (lNil))))))) (sSkip)
def d10_b1 (t : Tab) : EvS := sSeq (sSet (eVar 2) (eVar 3) (eCall t 9 (lCons (eVar 0) (lCons (eVar 3) (lNil))))) (sFor (itRange2 (lCons (eC (.int 2)) (lCons (eVar 3) (lNil)))) (.nm 4) (d10_b0 t))
/-- _law_many_primes -/
def d10 (t : Tab) : EvS :=
  sSeq (sAsg (.nm 2) (eDicK)) (sSeq (sFor (itRange2 (lCons (eC (.int 2)) (lCons (eBin dAdd (eVar 1) (eC (.int 1))) (lNil)))) (.nm 3) (d10_b1 t)) (sRet (eVar 2)))
abbrev st11 : Stmt := topAt 14
abbrev nm11 : List Str := ["_law_counts_here", "_law_primes", "_law_size", "_law_k", "_law_found", "_law_b"]
def d11_b0 (t : Tab) : EvS := sIf (tOf (eBin (dEq false) (eBin dMod (eB bInt (lCons (eVar 2) (lNil))) (eVar 5)) (eC (.int 0)))) (sAsg (.nm 4) (eBin dAdd (eVar 4) (eBin dMulA (eBin dIx (eVar 1) (eVar 5)) (eCall t 11 (lCons (eVar 0) (lCons (eVar 1) (lCons (eBin dFdiv (eVar 2) (eVar 5)) (lCons (eBin dSub (eVar 3) (eC (.int 1))) (lNil))))))))) (sSkip)
/-- _law_many_glued -/
def d11 (t : Tab) : EvS :=
  sSeq (sIf (tOf (eBin (dEq false) (eVar 3) (eC (.int 1)))) (sRet (eBin dIx (eVar 1) (eVar 2))) (sSkip)) (sSeq (sAsg (.nm 4) (eC (.int 0))) (sSeq (sFor (itRange2 (lCons (eC (.int 2)) (lCons (eVar 2) (lNil)))) (.nm 5) (d11_b0 t)) (sRet (eVar 4))))
abbrev st12 : Stmt := topAt 15
abbrev nm12 : List Str := ["_law_script", "_law_source_here", "_law_counts_here", "_law_primes", "_law_size", "_law_told", "_law_one", "_law_other", "_law_due", "_law_k", "_law_b"]
def d12_e0 (t : Tab) : EvE := eCall t 4 (lCons (eVar 4) (lCons (eVar 9) (lNil)))
def d12_e1 (t : Tab) : EvE := eCall t 11 (lCons (eVar 2) (lCons (eVar 3) (lCons (eVar 4) (lCons (eVar 9) (lNil)))))
def d12_e2 (t : Tab) : EvE := eCall t 4 (lCons (eVar 4) (lCons (eVar 9) (lNil)))
def d12_q0 (t : Tab) : EvT := tOf (eBin (dEq false) (eBin dMod (eB bInt (lCons (eVar 4) (lNil))) (eVar 10)) (eC (.int 0)))
def d12_e3 (t : Tab) : EvE := eVar 10
def d12_b0 (t : Tab) : EvS := sSeq (sAsg (.nm 5) (eLc (itRange2 (lCons (eC (.int 1)) (lCons (eC (.int 7)) (lNil)))) (.nm 9) [9] (tYesE) (d12_e0 t))) (sSeq (sIf (tOf (eBin (dEq true) (eB bRepr (lCons (eVar 5) (lNil))) (eB bRepr (lCons (eLc (itRange2 (lCons (eC (.int 1)) (lCons (eC (.int 7)) (lNil)))) (.nm 9) [9] (tYesE) (d12_e1 t)) (lNil))))) (sRet (eC (.bl false))) (sSkip)) (sSeq (sIf (tOrr (tOf (eBin (dEq true) (eB bSum (lCons (eVar 5) (lNil))) (eCall t 1 (lCons (eVar 4) (lNil))))) (tOf (eBin (dEq true) (eBin dIx (eVar 5) (eC (.int 0))) (eCall t 3 (lCons (eVar 4) (lNil)))))) (sRet (eC (.bl false))) (sSkip)) (sSeq (sIf (tOf (eBin (dEq true) (eLc (itE (eLst (lCons (eC (.int 7)) (lCons (eC (.int 30)) (lCons (eC (.int 60)) (lNil)))))) (.nm 9) [9] (tYesE) (d12_e2 t)) (eLst (lCons (eC (.int 0)) (lCons (eC (.int 0)) (lCons (eC (.int 0)) (lNil))))))) (sRet (eC (.bl false))) (sSkip)) (sIf (tAn (tOf (eBin (dEq false) (eLc (itRange2 (lCons (eC (.int 2)) (lCons (eVar 4) (lNil)))) (.nm 10) [10] (d12_q0 t) (d12_e3 t)) (eLst (lNil)))) (tOf (eBin (dEq true) (eCut (eVar 5) (oSome (eC (.int 1))) oNone) (eBin dMulA (eLst (lCons (eC (.int 0)) (lNil))) (eC (.int 5)))))) (sRet (eC (.bl false))) (sSkip)))))
def d12_b1 (t : Tab) : EvS := sSeq (sAsg (.nm 8) (eBin dMulA (eBin dMulA (eCall t 3 (lCons (eVar 6) (lNil))) (eCall t 3 (lCons (eVar 7) (lNil)))) (eC (.int 2)))) (sIf (tOf (eBin (dEq true) (eCall t 4 (lCons (eBin dMulA (eVar 6) (eVar 7)) (lCons (eC (.int 2)) (lNil)))) (eVar 8))) (sRet (eC (.bl false))) (sSkip))
def d12_e4 (t : Tab) : EvE := eCall t 4 (lCons (eC (.int 8)) (lCons (eVar 9) (lNil)))
/-- law -/
def d12 (t : Tab) : EvS :=
  sSeq (sAsg (.nm 1) (eCall t 5 (lCons (eVar 0) (lNil)))) (sSeq (sAsg (.nm 2) (eCall t 8 (lCons (eC (.int 40)) (lNil)))) (sSeq (sAsg (.nm 3) (eCall t 10 (lCons (eVar 2) (lCons (eC (.int 40)) (lNil))))) (sSeq (sFor (itE (eBin dAdd (eCut (eCall t 7 (lCons (eVar 1) (lCons (eLrg2 (eC (.int 2)) (eC (.int 41))) (lNil)))) oNone (oSome (eC (.int 5)))) (eLst (lCons (eC (.int 8)) (lCons (eC (.int 16)) (lCons (eC (.int 36)) (lNil))))))) (.nm 4) (d12_b0 t)) (sSeq (sFor (itE (eLst (lCons (eTup (lCons (eC (.int 2)) (lCons (eC (.int 3)) (lNil)))) (lCons (eTup (lCons (eC (.int 3)) (lCons (eC (.int 5)) (lNil)))) (lCons (eTup (lCons (eC (.int 2)) (lCons (eC (.int 7)) (lNil)))) (lNil)))))) (.tp [.nm 6, .nm 7]) (d12_b1 t)) (sRet (eAn (eBin (dEq false) (eLc (itE (eLst (lCons (eC (.int 2)) (lCons (eC (.int 3)) (lCons (eC (.int 4)) (lNil)))))) (.nm 9) [9] (tYesE) (d12_e4 t)) (eLst (lCons (eC (.int 18)) (lCons (eC (.int 1)) (lCons (eC (.int 0)) (lNil)))))) (eBin (dEq false) (eCall t 4 (lCons (eC (.int 4)) (lCons (eC (.int 2)) (lNil)))) (eC (.int 1)))))))))
def Prog : List Fn := [⟨4, 1, d0⟩, ⟨4, 1, d1⟩, ⟨2, 1, d2⟩, ⟨2, 1, d3⟩, ⟨3, 2, d4⟩, ⟨3, 1, d5⟩, ⟨4, 2, d6⟩, ⟨4, 2, d7⟩, ⟨3, 1, d8⟩, ⟨4, 2, d9⟩, ⟨5, 2, d10⟩, ⟨6, 4, d11⟩, ⟨11, 1, d12⟩]
structure Wd (K : PySem.W.Frag) (mg : Str → Option Value) (ad : Nat → Addr) : Prop where
  m0 : mg "shape_counts" = some (.ref (ad 0))
  k0 : PySem.W.keepIn K (.ref (ad 0)) = true
  m1 : mg "count_tables" = some (.ref (ad 1))
  k1 : PySem.W.keepIn K (.ref (ad 1)) = true
  m2 : mg "first_sizes" = some (.ref (ad 2))
  k2 : PySem.W.keepIn K (.ref (ad 2)) = true
  m3 : mg "count_primes" = some (.ref (ad 3))
  k3 : PySem.W.keepIn K (.ref (ad 3)) = true
  m4 : mg "count_glued" = some (.ref (ad 4))
  k4 : PySem.W.keepIn K (.ref (ad 4)) = true
  m5 : mg "_law_source" = some (.ref (ad 5))
  k5 : PySem.W.keepIn K (.ref (ad 5)) = true
  m6 : mg "_law_pick" = some (.ref (ad 6))
  k6 : PySem.W.keepIn K (.ref (ad 6)) = true
  m7 : mg "_law_mixed" = some (.ref (ad 7))
  k7 : PySem.W.keepIn K (.ref (ad 7)) = true
  m8 : mg "_law_counts" = some (.ref (ad 8))
  k8 : PySem.W.keepIn K (.ref (ad 8)) = true
  m9 : mg "_law_many_tables" = some (.ref (ad 9))
  k9 : PySem.W.keepIn K (.ref (ad 9)) = true
  m10 : mg "_law_many_primes" = some (.ref (ad 10))
  k10 : PySem.W.keepIn K (.ref (ad 10)) = true
  m11 : mg "_law_many_glued" = some (.ref (ad 11))
  k11 : PySem.W.keepIn K (.ref (ad 11)) = true
  m12 : mg "law" = some (.ref (ad 12))
  k12 : PySem.W.keepIn K (.ref (ad 12)) = true
  b_abs : mg "abs" = none
  b_int : mg "int" = none
  b_len : mg "len" = none
  b_list : mg "list" = none
  b_max : mg "max" = none
  b_range : mg "range" = none
  b_repr : mg "repr" = none
  b_sum : mg "sum" = none
theorem boot_bi_abs : bootBuiltins "abs" = some (.builtin "abs") := by decide +kernel
theorem boot_ty_int : bootBuiltins "int" = some (.type "int") := by decide +kernel
theorem boot_bi_len : bootBuiltins "len" = some (.builtin "len") := by decide +kernel
theorem boot_ty_list : bootBuiltins "list" = some (.type "list") := by decide +kernel
theorem boot_bi_max : bootBuiltins "max" = some (.builtin "max") := by decide +kernel
theorem boot_bi_repr : bootBuiltins "repr" = some (.builtin "repr") := by decide +kernel
theorem boot_bi_sum : bootBuiltins "sum" = some (.builtin "sum") := by decide +kernel
theorem sc0 : FnScope nm0 ["m"] (defScope st0) := ⟨rfl, rfl, rfl, by decide +kernel, rfl, by decide +kernel, by decide +kernel⟩
abbrev X0 (P : Program) (w : World) (K : PySem.W.Frag) (mg : Str → Option Value) (base : Heap) (f : Addr) (cdv : Value) (A : Around) (outer : List PySem.Env) (s : Shared) (H : Hp) (E : XK) : Cx := cxOf (L2.CX P w) P w K mg base nm0 "shape_counts" (defScope st0) f cdv A outer s H E
set_option maxHeartbeats 4000000 in
theorem dv0 {G : Gd} {P : Program} {w : World} {mg : Str → Option Value} {base : Heap} {k : Nat} {ad : Nat → Addr} {t : Tab} (Z : Wd G.K mg ad) (F : ∀ i, FG P w G.K mg base k (ad i) (spT G (t i)))
    {f : Addr} {cdv : Value} {A : Around} {outer : List PySem.Env} {s : Shared} {H : Hp} {E : XK} {W : WX} (ok : Okk G (X0 P w G.K mg base f cdv A outer s H E) k) (tk : Takes (X0 P w G.K mg base f cdv A outer s H E) W)
    (hp : PassesOwn (model P w) (X0 P w G.K mg base f cdv A outer s H E).A (X0 P w G.K mg base f cdv A outer s H E).env (X0 P w G.K mg base f cdv A outer s H E).xe) :
    PSsv G (X0 P w G.K mg base f cdv A outer s H E) W (d0 t) (defBody st0) :=
  sv_cons (sv_set (i := 1) ok.nd (ev_lst (lv_cons (ev_int) (lv_cons (ev_int) (lv_nil)))))
    (sv_cons (sv_for hp ok.calm (iv_range2 (by rfl) Z.b_range (lv_cons (ev_int) (lv_cons (ev_bin op_addV (ds_add ok.hK) (ev_var (i := 0)) (ev_int)) (lv_nil)))) (gv_name (i := 2) ok.nd) (sv_one (sv_expr (ev_ml ok.hK PySem.F.slot_list_append PySem.F.type_list_append mt_append ms_append (ev_var (i := 1)) (lv_cons (ev_callB (cr_sum ok.calm) (cs_sum ok.hK) (by rfl) Z.b_sum boot_bi_sum (lv_cons (ev_lc (own := [("k", 3)]) ok.calm ok.nd (iv_range2 (by rfl) Z.b_range (lv_cons (ev_int) (lv_cons (ev_var (i := 2)) (lv_nil)))) (blkOk_by (N := nm0) (sc := defScope st0) (by decide +kernel)) (fun _ _ _ _ _ => gv_name (i := 3) ok.nd) (fun _ _ _ _ _ => tsv_nil) (fun _ _ _ _ _ => ev_bin op_mulA (ds_mulA ok.hK) (ev_ix ok.hK ok.u2 (ev_var (i := 1)) (ev_var (i := 3))) (ev_ix ok.hK ok.u2 (ev_var (i := 1)) (ev_bin op_sub ds_sub (ev_var (i := 2)) (ev_var (i := 3))))) (by simp [Tgt.slots, slotsL])) (lv_nil))) (lv_nil))))))
    (sv_one (sv_ret (ev_var (i := 1)))))
theorem sc1 : FnScope nm1 ["size"] (defScope st1) := ⟨rfl, rfl, rfl, by decide +kernel, rfl, by decide +kernel, by decide +kernel⟩
abbrev X1 (P : Program) (w : World) (K : PySem.W.Frag) (mg : Str → Option Value) (base : Heap) (f : Addr) (cdv : Value) (A : Around) (outer : List PySem.Env) (s : Shared) (H : Hp) (E : XK) : Cx := cxOf (L2.CX P w) P w K mg base nm1 "count_tables" (defScope st1) f cdv A outer s H E
set_option maxHeartbeats 4000000 in
theorem dv1 {G : Gd} {P : Program} {w : World} {mg : Str → Option Value} {base : Heap} {k : Nat} {ad : Nat → Addr} {t : Tab} (Z : Wd G.K mg ad) (F : ∀ i, FG P w G.K mg base k (ad i) (spT G (t i)))
    {f : Addr} {cdv : Value} {A : Around} {outer : List PySem.Env} {s : Shared} {H : Hp} {E : XK} {W : WX} (ok : Okk G (X1 P w G.K mg base f cdv A outer s H E) k) (tk : Takes (X1 P w G.K mg base f cdv A outer s H E) W)
    (hp : PassesOwn (model P w) (X1 P w G.K mg base f cdv A outer s H E).A (X1 P w G.K mg base f cdv A outer s H E).env (X1 P w G.K mg base f cdv A outer s H E).xe) :
    PSsv G (X1 P w G.K mg base f cdv A outer s H E) W (d1 t) (defBody st1) :=
  sv_cons (sv_par (i := 1) (j := 2) ok.calm ok.nd (lv_cons (ev_call (i := 0) (F 0) ok.room ok.gu tk Z.m0 Z.k0 (lv_cons (ev_var (i := 0)) (lv_nil))) (lv_cons (ev_int) (lv_nil))))
    (sv_cons (sv_for hp ok.calm (iv_range2 (by rfl) Z.b_range (lv_cons (ev_int) (lv_cons (ev_bin op_addV (ds_add ok.hK) (ev_var (i := 0)) (ev_int)) (lv_nil)))) (gv_name (i := 3) ok.nd) (sv_one (sv_aug (i := 2) ok.nd iop_mulW ds_mulI (ev_ix ok.hK ok.u2 (ev_var (i := 1)) (ev_var (i := 3))))))
    (sv_one (sv_ret (ev_var (i := 2)))))
theorem sc2 : FnScope nm2 ["size"] (defScope st2) := ⟨rfl, rfl, rfl, by decide +kernel, rfl, by decide +kernel, by decide +kernel⟩
abbrev X2 (P : Program) (w : World) (K : PySem.W.Frag) (mg : Str → Option Value) (base : Heap) (f : Addr) (cdv : Value) (A : Around) (outer : List PySem.Env) (s : Shared) (H : Hp) (E : XK) : Cx := cxOf (L2.CX P w) P w K mg base nm2 "first_sizes" (defScope st2) f cdv A outer s H E
set_option maxHeartbeats 4000000 in
theorem dv2 {G : Gd} {P : Program} {w : World} {mg : Str → Option Value} {base : Heap} {k : Nat} {ad : Nat → Addr} {t : Tab} (Z : Wd G.K mg ad) (F : ∀ i, FG P w G.K mg base k (ad i) (spT G (t i)))
    {f : Addr} {cdv : Value} {A : Around} {outer : List PySem.Env} {s : Shared} {H : Hp} {E : XK} {W : WX} (ok : Okk G (X2 P w G.K mg base f cdv A outer s H E) k) (tk : Takes (X2 P w G.K mg base f cdv A outer s H E) W)
    (hp : PassesOwn (model P w) (X2 P w G.K mg base f cdv A outer s H E).A (X2 P w G.K mg base f cdv A outer s H E).env (X2 P w G.K mg base f cdv A outer s H E).xe) :
    PSsv G (X2 P w G.K mg base f cdv A outer s H E) W (d2 t) (defBody st2) :=
  sv_one (sv_ret (ev_lc (own := [("b", 1)]) ok.calm ok.nd (iv_range2 (by rfl) Z.b_range (lv_cons (ev_int) (lv_cons (ev_bin op_addV (ds_add ok.hK) (ev_bin op_fdivW ds_fdiv (ev_var (i := 0)) (ev_int)) (ev_int)) (lv_nil)))) (blkOk_by (N := nm2) (sc := defScope st2) (by decide +kernel)) (fun _ _ _ _ _ => gv_name (i := 1) ok.nd) (fun _ _ _ _ _ => tsv_one (tv_cmp (op_eqM ok.u1) (ds_eq ok.hK false) (ev_bin op_mod ds_mod (ev_var (i := 0)) (ev_var (i := 1))) (ev_int) (hm := by with_unfolding_all rfl))) (fun _ _ _ _ _ => ev_var (i := 1)) (by simp [Tgt.slots, slotsL])))
theorem sc3 : FnScope nm3 ["size"] (defScope st3) := ⟨rfl, rfl, rfl, by decide +kernel, rfl, by decide +kernel, by decide +kernel⟩
abbrev X3 (P : Program) (w : World) (K : PySem.W.Frag) (mg : Str → Option Value) (base : Heap) (f : Addr) (cdv : Value) (A : Around) (outer : List PySem.Env) (s : Shared) (H : Hp) (E : XK) : Cx := cxOf (L2.CX P w) P w K mg base nm3 "count_primes" (defScope st3) f cdv A outer s H E
set_option maxHeartbeats 4000000 in
theorem dv3 {G : Gd} {P : Program} {w : World} {mg : Str → Option Value} {base : Heap} {k : Nat} {ad : Nat → Addr} {t : Tab} (Z : Wd G.K mg ad) (F : ∀ i, FG P w G.K mg base k (ad i) (spT G (t i)))
    {f : Addr} {cdv : Value} {A : Around} {outer : List PySem.Env} {s : Shared} {H : Hp} {E : XK} {W : WX} (ok : Okk G (X3 P w G.K mg base f cdv A outer s H E) k) (tk : Takes (X3 P w G.K mg base f cdv A outer s H E) W)
    (hp : PassesOwn (model P w) (X3 P w G.K mg base f cdv A outer s H E).A (X3 P w G.K mg base f cdv A outer s H E).env (X3 P w G.K mg base f cdv A outer s H E).xe) :
    PSsv G (X3 P w G.K mg base f cdv A outer s H E) W (d3 t) (defBody st3) :=
  sv_one (sv_ret (ev_bin op_sub ds_sub (ev_call (i := 1) (F 1) ok.room ok.gu tk Z.m1 Z.k1 (lv_cons (ev_var (i := 0)) (lv_nil))) (ev_callB (cr_sum ok.calm) (cs_sum ok.hK) (by rfl) Z.b_sum boot_bi_sum (lv_cons (ev_lc (own := [("b", 1)]) ok.calm ok.nd (iv_val ok.hK (ev_call (i := 2) (F 2) ok.room ok.gu tk Z.m2 Z.k2 (lv_cons (ev_var (i := 0)) (lv_nil)))) (blkOk_by (N := nm3) (sc := defScope st3) (by decide +kernel)) (fun _ _ _ _ _ => gv_name (i := 1) ok.nd) (fun _ _ _ _ _ => tsv_nil) (fun _ _ _ _ _ => ev_bin op_mulA (ds_mulA ok.hK) (ev_call (i := 3) (F 3) ok.room ok.gu takes_no Z.m3 Z.k3 (lv_cons (ev_var (i := 1)) (lv_nil))) (ev_call (i := 1) (F 1) ok.room ok.gu takes_no Z.m1 Z.k1 (lv_cons (ev_bin op_fdivW ds_fdiv (ev_var (i := 0)) (ev_var (i := 1))) (lv_nil)))) (by simp [Tgt.slots, slotsL])) (lv_nil)))))
theorem sc4 : FnScope nm4 ["size", "k"] (defScope st4) := ⟨rfl, rfl, rfl, by decide +kernel, rfl, by decide +kernel, by decide +kernel⟩
abbrev X4 (P : Program) (w : World) (K : PySem.W.Frag) (mg : Str → Option Value) (base : Heap) (f : Addr) (cdv : Value) (A : Around) (outer : List PySem.Env) (s : Shared) (H : Hp) (E : XK) : Cx := cxOf (L2.CX P w) P w K mg base nm4 "count_glued" (defScope st4) f cdv A outer s H E
set_option maxHeartbeats 4000000 in
theorem dv4 {G : Gd} {P : Program} {w : World} {mg : Str → Option Value} {base : Heap} {k : Nat} {ad : Nat → Addr} {t : Tab} (Z : Wd G.K mg ad) (F : ∀ i, FG P w G.K mg base k (ad i) (spT G (t i)))
    {f : Addr} {cdv : Value} {A : Around} {outer : List PySem.Env} {s : Shared} {H : Hp} {E : XK} {W : WX} (ok : Okk G (X4 P w G.K mg base f cdv A outer s H E) k) (tk : Takes (X4 P w G.K mg base f cdv A outer s H E) W)
    (hp : PassesOwn (model P w) (X4 P w G.K mg base f cdv A outer s H E).A (X4 P w G.K mg base f cdv A outer s H E).env (X4 P w G.K mg base f cdv A outer s H E).xe) :
    PSsv G (X4 P w G.K mg base f cdv A outer s H E) W (d4 t) (defBody st4) :=
  sv_cons (sv_if (tv_cmp (op_eqM ok.u1) (ds_eq ok.hK false) (ev_var (i := 1)) (ev_int) (hm := by with_unfolding_all rfl)) (sv_one (sv_ret (ev_call (i := 3) (F 3) ok.room ok.gu tk Z.m3 Z.k3 (lv_cons (ev_var (i := 0)) (lv_nil))))) (sv_nil))
    (sv_one (sv_ret (ev_callB (cr_sum ok.calm) (cs_sum ok.hK) (by rfl) Z.b_sum boot_bi_sum (lv_cons (ev_lc (own := [("b", 2)]) ok.calm ok.nd (iv_val ok.hK (ev_call (i := 2) (F 2) ok.room ok.gu tk Z.m2 Z.k2 (lv_cons (ev_var (i := 0)) (lv_nil)))) (blkOk_by (N := nm4) (sc := defScope st4) (by decide +kernel)) (fun _ _ _ _ _ => gv_name (i := 2) ok.nd) (fun _ _ _ _ _ => tsv_nil) (fun _ _ _ _ _ => ev_bin op_mulA (ds_mulA ok.hK) (ev_call (i := 3) (F 3) ok.room ok.gu takes_no Z.m3 Z.k3 (lv_cons (ev_var (i := 2)) (lv_nil))) (ev_call (i := 4) (F 4) ok.room ok.gu takes_no Z.m4 Z.k4 (lv_cons (ev_bin op_fdivW ds_fdiv (ev_var (i := 0)) (ev_var (i := 2))) (lv_cons (ev_bin op_sub ds_sub (ev_var (i := 1)) (ev_int)) (lv_nil))))) (by simp [Tgt.slots, slotsL])) (lv_nil)))))
theorem sc5 : FnScope nm5 ["_law_script"] (defScope st5) := ⟨rfl, rfl, rfl, by decide +kernel, rfl, by decide +kernel, by decide +kernel⟩
abbrev X5 (P : Program) (w : World) (K : PySem.W.Frag) (mg : Str → Option Value) (base : Heap) (f : Addr) (cdv : Value) (A : Around) (outer : List PySem.Env) (s : Shared) (H : Hp) (E : XK) : Cx := cxOf (L2.CX P w) P w K mg base nm5 "_law_source" (defScope st5) f cdv A outer s H E
set_option maxHeartbeats 4000000 in
theorem dv5 {G : Gd} {P : Program} {w : World} {mg : Str → Option Value} {base : Heap} {k : Nat} {ad : Nat → Addr} {t : Tab} (Z : Wd G.K mg ad) (F : ∀ i, FG P w G.K mg base k (ad i) (spT G (t i)))
    {f : Addr} {cdv : Value} {A : Around} {outer : List PySem.Env} {s : Shared} {H : Hp} {E : XK} {W : WX} (ok : Okk G (X5 P w G.K mg base f cdv A outer s H E) k) (tk : Takes (X5 P w G.K mg base f cdv A outer s H E) W)
    (hp : PassesOwn (model P w) (X5 P w G.K mg base f cdv A outer s H E).A (X5 P w G.K mg base f cdv A outer s H E).env (X5 P w G.K mg base f cdv A outer s H E).xe) :
    PSsv G (X5 P w G.K mg base f cdv A outer s H E) W (d5 t) (defBody st5) :=
  sv_cons (sv_set (i := 1) ok.nd (ev_int))
    (sv_cons (sv_for hp ok.calm (iv_val ok.hK (ev_var (i := 0))) (gv_name (i := 2) ok.nd) (sv_one (sv_set (i := 1) ok.nd (ev_bin op_mod ds_mod (ev_callTy cr_intV cs_int (by rfl) Z.b_int boot_ty_int (lv_cons (ev_bin op_addV (ds_add ok.hK) (ev_bin op_addV (ds_add ok.hK) (ev_bin op_mulA (ds_mulA ok.hK) (ev_var (i := 1)) (ev_int)) (ev_bin op_mulA (ds_mulA ok.hK) (ev_var (i := 2)) (ev_int))) (ev_int)) (lv_nil))) (ev_int)))))
    (sv_one (sv_ret (ev_dict (pv_cons (ev_str) (ev_rev ok.hK (ev_lc (own := [("_law_cell", 2)]) ok.calm ok.nd (iv_val ok.hK (ev_var (i := 0))) (blkOk_by (N := nm5) (sc := defScope st5) (by decide +kernel)) (fun _ _ _ _ _ => gv_name (i := 2) ok.nd) (fun _ _ _ _ _ => tsv_nil) (fun _ _ _ _ _ => ev_callB cr_absV cs_abs (by rfl) Z.b_abs boot_bi_abs (lv_cons (ev_var (i := 2)) (lv_nil))) (by simp [Tgt.slots, slotsL]))) (pv_cons (ev_str) (ev_int) (pv_cons (ev_str) (ev_var (i := 1)) (pv_cons (ev_str) (ev_int) (pv_nil)))))))))
theorem sc6 : FnScope nm6 ["_law_source_here", "_law_many"] (defScope st6) := ⟨rfl, rfl, rfl, by decide +kernel, rfl, by decide +kernel, by decide +kernel⟩
abbrev X6 (P : Program) (w : World) (K : PySem.W.Frag) (mg : Str → Option Value) (base : Heap) (f : Addr) (cdv : Value) (A : Around) (outer : List PySem.Env) (s : Shared) (H : Hp) (E : XK) : Cx := cxOf (L2.CX P w) P w K mg base nm6 "_law_pick" (defScope st6) f cdv A outer s H E
set_option maxHeartbeats 4000000 in
theorem dv6 {G : Gd} {P : Program} {w : World} {mg : Str → Option Value} {base : Heap} {k : Nat} {ad : Nat → Addr} {t : Tab} (Z : Wd G.K mg ad) (F : ∀ i, FG P w G.K mg base k (ad i) (spT G (t i)))
    {f : Addr} {cdv : Value} {A : Around} {outer : List PySem.Env} {s : Shared} {H : Hp} {E : XK} {W : WX} (ok : Okk G (X6 P w G.K mg base f cdv A outer s H E) k) (tk : Takes (X6 P w G.K mg base f cdv A outer s H E) W)
    (hp : PassesOwn (model P w) (X6 P w G.K mg base f cdv A outer s H E).A (X6 P w G.K mg base f cdv A outer s H E).env (X6 P w G.K mg base f cdv A outer s H E).xe) :
    PSsv G (X6 P w G.K mg base f cdv A outer s H E) W (d6 t) (defBody st6) :=
  sv_cons (sv_while (n := FUEL) hp (tv_bool (wv_and (tv_cmp op_gt (ds_cmp _) (ev_var (i := 1)) (ev_int) (hm := by with_unfolding_all rfl)) (wv_and (tv_cmp op_lt (ds_cmp _) (ev_ix ok.hK ok.u2 (ev_var (i := 0)) (ev_str)) (ev_int) (hm := by with_unfolding_all rfl)) (wv_and1 (tv_cmp op_gt (ds_cmp _) (ev_callB cr_lenV (cs_len ok.hK) (by rfl) Z.b_len boot_bi_len (lv_cons (ev_ix ok.hK ok.u2 (ev_var (i := 0)) (ev_str)) (lv_nil))) (ev_int) (hm := by with_unfolding_all rfl)))))) (sv_one (sv_setIx ok.u2 (ev_ml0 ok.hK PySem.F.slot_list_pop PySem.F.type_list_pop mt_popA ms_pop (ev_ix ok.hK ok.u2 (ev_var (i := 0)) (ev_str))) (ev_var (i := 0)) (ev_str))))
    (sv_cons (sv_set (i := 2) ok.nd (ev_ix ok.hK ok.u2 (ev_var (i := 0)) (ev_str)))
    (sv_cons (sv_if (tv_bool (wv_or (tv_cmp op_lt (ds_cmp _) (ev_var (i := 1)) (ev_int) (hm := by with_unfolding_all rfl)) (wv_or1 (tv_cmp op_gt (ds_cmp _) (ev_var (i := 2)) (ev_int) (hm := by with_unfolding_all rfl))))) (sv_cons (sv_setIx ok.u2 (ev_bin op_fdivW ds_fdiv (ev_var (i := 2)) (ev_callB (cr_maxV ok.calm) (cs_max ok.hK) (by rfl) Z.b_max boot_bi_max (lv_cons (ev_int) (lv_cons (ev_var (i := 1)) (lv_nil))))) (ev_var (i := 0)) (ev_str))
    (sv_one (sv_ret (ev_bin op_mod ds_mod (ev_callTy cr_intV cs_int (by rfl) Z.b_int boot_ty_int (lv_cons (ev_var (i := 2)) (lv_nil))) (ev_callB (cr_maxV ok.calm) (cs_max ok.hK) (by rfl) Z.b_max boot_bi_max (lv_cons (ev_int) (lv_cons (ev_var (i := 1)) (lv_nil)))))))) (sv_nil))
    (sv_cons (sv_setIx ok.u2 (ev_bin op_addV (ds_add ok.hK) (ev_ix ok.hK ok.u2 (ev_var (i := 0)) (ev_str)) (ev_int)) (ev_var (i := 0)) (ev_str))
    (sv_cons (sv_set (i := 3) ok.nd (ev_bin op_mod ds_mod (ev_callTy cr_intV cs_int (by rfl) Z.b_int boot_ty_int (lv_cons (ev_bin op_addV (ds_add ok.hK) (ev_ix ok.hK ok.u2 (ev_var (i := 0)) (ev_str)) (ev_bin op_mulA (ds_mulA ok.hK) (ev_ix ok.hK ok.u2 (ev_var (i := 0)) (ev_str)) (ev_int))) (lv_nil))) (ev_int)))
    (sv_cons (sv_set (i := 3) ok.nd (ev_bin op_mod ds_mod (ev_callTy cr_intV cs_int (by rfl) Z.b_int boot_ty_int (lv_cons (ev_bin op_addV (ds_add ok.hK) (ev_bin op_mulA (ds_mulA ok.hK) (ev_var (i := 3)) (ev_var (i := 3))) (ev_bin op_mulA (ds_mulA ok.hK) (ev_ix ok.hK ok.u2 (ev_var (i := 0)) (ev_str)) (ev_int))) (lv_nil))) (ev_int)))
    (sv_cons (sv_setIx ok.u2 (ev_var (i := 3)) (ev_var (i := 0)) (ev_str))
    (sv_one (sv_ret (ev_bin op_mod ds_mod (ev_callTy cr_intV cs_int (by rfl) Z.b_int boot_ty_int (lv_cons (ev_bin op_fdivW ds_fdiv (ev_var (i := 3)) (ev_int)) (lv_nil))) (ev_var (i := 1)))))))))))
theorem sc7 : FnScope nm7 ["_law_source_here", "_law_things"] (defScope st7) := ⟨rfl, rfl, rfl, by decide +kernel, rfl, by decide +kernel, by decide +kernel⟩
abbrev X7 (P : Program) (w : World) (K : PySem.W.Frag) (mg : Str → Option Value) (base : Heap) (f : Addr) (cdv : Value) (A : Around) (outer : List PySem.Env) (s : Shared) (H : Hp) (E : XK) : Cx := cxOf (L2.CX P w) P w K mg base nm7 "_law_mixed" (defScope st7) f cdv A outer s H E
set_option maxHeartbeats 4000000 in
theorem dv7 {G : Gd} {P : Program} {w : World} {mg : Str → Option Value} {base : Heap} {k : Nat} {ad : Nat → Addr} {t : Tab} (Z : Wd G.K mg ad) (F : ∀ i, FG P w G.K mg base k (ad i) (spT G (t i)))
    {f : Addr} {cdv : Value} {A : Around} {outer : List PySem.Env} {s : Shared} {H : Hp} {E : XK} {W : WX} (ok : Okk G (X7 P w G.K mg base f cdv A outer s H E) k) (tk : Takes (X7 P w G.K mg base f cdv A outer s H E) W)
    (hp : PassesOwn (model P w) (X7 P w G.K mg base f cdv A outer s H E).A (X7 P w G.K mg base f cdv A outer s H E).env (X7 P w G.K mg base f cdv A outer s H E).xe) :
    PSsv G (X7 P w G.K mg base f cdv A outer s H E) W (d7 t) (defBody st7) :=
  sv_cons (sv_set (i := 2) ok.nd (ev_callTy cr_listV (cs_list ok.hK) (by rfl) Z.b_list boot_ty_list (lv_cons (ev_var (i := 1)) (lv_nil))))
    (sv_one (sv_ret (ev_lc (own := [("_law_lap", 3)]) ok.calm ok.nd (iv_range1 (by rfl) Z.b_range (lv_cons (ev_callB cr_lenV (cs_len ok.hK) (by rfl) Z.b_len boot_bi_len (lv_cons (ev_var (i := 2)) (lv_nil))) (lv_nil))) (blkOk_by (N := nm7) (sc := defScope st7) (by decide +kernel)) (fun _ _ _ _ _ => gv_name (i := 3) ok.nd) (fun _ _ _ _ _ => tsv_nil) (fun _ _ _ _ _ => ev_ml ok.hK PySem.F.slot_list_pop PySem.F.type_list_pop mt_popA ms_pop (ev_var (i := 2)) (lv_cons (ev_call (i := 6) (F 6) ok.room ok.gu takes_no Z.m6 Z.k6 (lv_cons (ev_var (i := 0)) (lv_cons (ev_callB cr_lenV (cs_len ok.hK) (by rfl) Z.b_len boot_bi_len (lv_cons (ev_var (i := 2)) (lv_nil))) (lv_nil)))) (lv_nil))) (by simp [Tgt.slots, slotsL]))))
theorem sc8 : FnScope nm8 ["_law_most"] (defScope st8) := ⟨rfl, rfl, rfl, by decide +kernel, rfl, by decide +kernel, by decide +kernel⟩
abbrev X8 (P : Program) (w : World) (K : PySem.W.Frag) (mg : Str → Option Value) (base : Heap) (f : Addr) (cdv : Value) (A : Around) (outer : List PySem.Env) (s : Shared) (H : Hp) (E : XK) : Cx := cxOf (L2.CX P w) P w K mg base nm8 "_law_counts" (defScope st8) f cdv A outer s H E
set_option maxHeartbeats 4000000 in
theorem dv8 {G : Gd} {P : Program} {w : World} {mg : Str → Option Value} {base : Heap} {k : Nat} {ad : Nat → Addr} {t : Tab} (Z : Wd G.K mg ad) (F : ∀ i, FG P w G.K mg base k (ad i) (spT G (t i)))
    {f : Addr} {cdv : Value} {A : Around} {outer : List PySem.Env} {s : Shared} {H : Hp} {E : XK} {W : WX} (ok : Okk G (X8 P w G.K mg base f cdv A outer s H E) k) (tk : Takes (X8 P w G.K mg base f cdv A outer s H E) W)
    (hp : PassesOwn (model P w) (X8 P w G.K mg base f cdv A outer s H E).A (X8 P w G.K mg base f cdv A outer s H E).env (X8 P w G.K mg base f cdv A outer s H E).xe) :
    PSsv G (X8 P w G.K mg base f cdv A outer s H E) W (d8 t) (defBody st8) :=
  sv_cons (sv_set (i := 1) ok.nd (ev_lst (lv_cons (ev_int) (lv_cons (ev_int) (lv_nil)))))
    (sv_cons (sv_for hp ok.calm (iv_range2 (by rfl) Z.b_range (lv_cons (ev_int) (lv_cons (ev_bin op_addV (ds_add ok.hK) (ev_var (i := 0)) (ev_int)) (lv_nil)))) (gv_name (i := 2) ok.nd) (sv_one (sv_expr (ev_ml ok.hK PySem.F.slot_list_append PySem.F.type_list_append mt_append ms_append (ev_var (i := 1)) (lv_cons (ev_bin op_fdivW ds_fdiv (ev_bin op_mulA (ds_mulA ok.hK) (ev_ix ok.hK ok.u2 (ev_var (i := 1)) (ev_un un_neg ds_neg (ev_int))) (ev_bin op_sub ds_sub (ev_bin op_mulA (ds_mulA ok.hK) (ev_int) (ev_var (i := 2))) (ev_int))) (ev_var (i := 2))) (lv_nil))))))
    (sv_one (sv_ret (ev_var (i := 1)))))
theorem sc9 : FnScope nm9 ["_law_counts_here", "_law_size"] (defScope st9) := ⟨rfl, rfl, rfl, by decide +kernel, rfl, by decide +kernel, by decide +kernel⟩
abbrev X9 (P : Program) (w : World) (K : PySem.W.Frag) (mg : Str → Option Value) (base : Heap) (f : Addr) (cdv : Value) (A : Around) (outer : List PySem.Env) (s : Shared) (H : Hp) (E : XK) : Cx := cxOf (L2.CX P w) P w K mg base nm9 "_law_many_tables" (defScope st9) f cdv A outer s H E
set_option maxHeartbeats 4000000 in
theorem dv9 {G : Gd} {P : Program} {w : World} {mg : Str → Option Value} {base : Heap} {k : Nat} {ad : Nat → Addr} {t : Tab} (Z : Wd G.K mg ad) (F : ∀ i, FG P w G.K mg base k (ad i) (spT G (t i)))
    {f : Addr} {cdv : Value} {A : Around} {outer : List PySem.Env} {s : Shared} {H : Hp} {E : XK} {W : WX} (ok : Okk G (X9 P w G.K mg base f cdv A outer s H E) k) (tk : Takes (X9 P w G.K mg base f cdv A outer s H E) W)
    (hp : PassesOwn (model P w) (X9 P w G.K mg base f cdv A outer s H E).A (X9 P w G.K mg base f cdv A outer s H E).env (X9 P w G.K mg base f cdv A outer s H E).xe) :
    PSsv G (X9 P w G.K mg base f cdv A outer s H E) W (d9 t) (defBody st9) :=
  sv_cons (sv_set (i := 2) ok.nd (ev_int))
    (sv_cons (sv_for hp ok.calm (iv_range2 (by rfl) Z.b_range (lv_cons (ev_int) (lv_cons (ev_bin op_addV (ds_add ok.hK) (ev_var (i := 1)) (ev_int)) (lv_nil)))) (gv_name (i := 3) ok.nd) (sv_one (sv_set (i := 2) ok.nd (ev_bin op_mulA (ds_mulA ok.hK) (ev_var (i := 2)) (ev_ix ok.hK ok.u2 (ev_var (i := 0)) (ev_var (i := 3)))))))
    (sv_one (sv_ret (ev_var (i := 2)))))
theorem sc10 : FnScope nm10 ["_law_counts_here", "_law_size"] (defScope st10) := ⟨rfl, rfl, rfl, by decide +kernel, rfl, by decide +kernel, by decide +kernel⟩
abbrev X10 (P : Program) (w : World) (K : PySem.W.Frag) (mg : Str → Option Value) (base : Heap) (f : Addr) (cdv : Value) (A : Around) (outer : List PySem.Env) (s : Shared) (H : Hp) (E : XK) : Cx := cxOf (L2.CX P w) P w K mg base nm10 "_law_many_primes" (defScope st10) f cdv A outer s H E
set_option maxHeartbeats 4000000 in
theorem dv10 {G : Gd} {P : Program} {w : World} {mg : Str → Option Value} {base : Heap} {k : Nat} {ad : Nat → Addr} {t : Tab} (Z : Wd G.K mg ad) (F : ∀ i, FG P w G.K mg base k (ad i) (spT G (t i)))
    {f : Addr} {cdv : Value} {A : Around} {outer : List PySem.Env} {s : Shared} {H : Hp} {E : XK} {W : WX} (ok : Okk G (X10 P w G.K mg base f cdv A outer s H E) k) (tk : Takes (X10 P w G.K mg base f cdv A outer s H E) W)
    (hp : PassesOwn (model P w) (X10 P w G.K mg base f cdv A outer s H E).A (X10 P w G.K mg base f cdv A outer s H E).env (X10 P w G.K mg base f cdv A outer s H E).xe) :
    PSsv G (X10 P w G.K mg base f cdv A outer s H E) W (d10 t) (defBody st10) :=
  sv_cons (sv_set (i := 2) ok.nd (ev_dicK))
    (sv_cons (sv_for hp ok.calm (iv_range2 (by rfl) Z.b_range (lv_cons (ev_int) (lv_cons (ev_bin op_addV (ds_add ok.hK) (ev_var (i := 1)) (ev_int)) (lv_nil)))) (gv_name (i := 3) ok.nd) (sv_cons (sv_setIx ok.u2 (ev_call (i := 9) (F 9) ok.room ok.gu tk Z.m9 Z.k9 (lv_cons (ev_var (i := 0)) (lv_cons (ev_var (i := 3)) (lv_nil)))) (ev_var (i := 2)) (ev_var (i := 3)))
    (sv_one (sv_for hp ok.calm (iv_range2 (by rfl) Z.b_range (lv_cons (ev_int) (lv_cons (ev_var (i := 3)) (lv_nil)))) (gv_name (i := 4) ok.nd) (sv_one (sv_if (tv_cmp (op_eqM ok.u1) (ds_eq ok.hK false) (ev_bin op_mod ds_mod (ev_callTy cr_intV cs_int (by rfl) Z.b_int boot_ty_int (lv_cons (ev_var (i := 3)) (lv_nil))) (ev_var (i := 4))) (ev_int) (hm := by with_unfolding_all rfl)) (sv_one (sv_setIx ok.u2 (ev_bin op_sub ds_sub (ev_ix ok.hK ok.u2 (ev_var (i := 2)) (ev_var (i := 3))) (ev_bin op_mulA (ds_mulA ok.hK) (ev_ix ok.hK ok.u2 (ev_var (i := 2)) (ev_var (i := 4))) (ev_call (i := 9) (F 9) ok.room ok.gu tk Z.m9 Z.k9 (lv_cons (ev_var (i := 0)) (lv_cons (ev_bin op_fdivW ds_fdiv (ev_var (i := 3)) (ev_var (i := 4))) (lv_nil)))))) (ev_var (i := 2)) (ev_var (i := 3)))) (sv_nil)))))))
    (sv_one (sv_ret (ev_var (i := 2)))))
theorem sc11 : FnScope nm11 ["_law_counts_here", "_law_primes", "_law_size", "_law_k"] (defScope st11) := ⟨rfl, rfl, rfl, by decide +kernel, rfl, by decide +kernel, by decide +kernel⟩
abbrev X11 (P : Program) (w : World) (K : PySem.W.Frag) (mg : Str → Option Value) (base : Heap) (f : Addr) (cdv : Value) (A : Around) (outer : List PySem.Env) (s : Shared) (H : Hp) (E : XK) : Cx := cxOf (L2.CX P w) P w K mg base nm11 "_law_many_glued" (defScope st11) f cdv A outer s H E
set_option maxHeartbeats 4000000 in
theorem dv11 {G : Gd} {P : Program} {w : World} {mg : Str → Option Value} {base : Heap} {k : Nat} {ad : Nat → Addr} {t : Tab} (Z : Wd G.K mg ad) (F : ∀ i, FG P w G.K mg base k (ad i) (spT G (t i)))
    {f : Addr} {cdv : Value} {A : Around} {outer : List PySem.Env} {s : Shared} {H : Hp} {E : XK} {W : WX} (ok : Okk G (X11 P w G.K mg base f cdv A outer s H E) k) (tk : Takes (X11 P w G.K mg base f cdv A outer s H E) W)
    (hp : PassesOwn (model P w) (X11 P w G.K mg base f cdv A outer s H E).A (X11 P w G.K mg base f cdv A outer s H E).env (X11 P w G.K mg base f cdv A outer s H E).xe) :
    PSsv G (X11 P w G.K mg base f cdv A outer s H E) W (d11 t) (defBody st11) :=
  sv_cons (sv_if (tv_cmp (op_eqM ok.u1) (ds_eq ok.hK false) (ev_var (i := 3)) (ev_int) (hm := by with_unfolding_all rfl)) (sv_one (sv_ret (ev_ix ok.hK ok.u2 (ev_var (i := 1)) (ev_var (i := 2))))) (sv_nil))
    (sv_cons (sv_set (i := 4) ok.nd (ev_int))
    (sv_cons (sv_for hp ok.calm (iv_range2 (by rfl) Z.b_range (lv_cons (ev_int) (lv_cons (ev_var (i := 2)) (lv_nil)))) (gv_name (i := 5) ok.nd) (sv_one (sv_if (tv_cmp (op_eqM ok.u1) (ds_eq ok.hK false) (ev_bin op_mod ds_mod (ev_callTy cr_intV cs_int (by rfl) Z.b_int boot_ty_int (lv_cons (ev_var (i := 2)) (lv_nil))) (ev_var (i := 5))) (ev_int) (hm := by with_unfolding_all rfl)) (sv_one (sv_set (i := 4) ok.nd (ev_bin op_addV (ds_add ok.hK) (ev_var (i := 4)) (ev_bin op_mulA (ds_mulA ok.hK) (ev_ix ok.hK ok.u2 (ev_var (i := 1)) (ev_var (i := 5))) (ev_call (i := 11) (F 11) ok.room ok.gu tk Z.m11 Z.k11 (lv_cons (ev_var (i := 0)) (lv_cons (ev_var (i := 1)) (lv_cons (ev_bin op_fdivW ds_fdiv (ev_var (i := 2)) (ev_var (i := 5))) (lv_cons (ev_bin op_sub ds_sub (ev_var (i := 3)) (ev_int)) (lv_nil)))))))))) (sv_nil))))
    (sv_one (sv_ret (ev_var (i := 4))))))
theorem sc12 : FnScope nm12 ["_law_script"] (defScope st12) := ⟨rfl, rfl, rfl, by decide +kernel, rfl, by decide +kernel, by decide +kernel⟩
abbrev X12 (P : Program) (w : World) (K : PySem.W.Frag) (mg : Str → Option Value) (base : Heap) (f : Addr) (cdv : Value) (A : Around) (outer : List PySem.Env) (s : Shared) (H : Hp) (E : XK) : Cx := cxOf (L2.CX P w) P w K mg base nm12 "law" (defScope st12) f cdv A outer s H E
set_option maxHeartbeats 4000000 in
theorem dv12 {G : Gd} {P : Program} {w : World} {mg : Str → Option Value} {base : Heap} {k : Nat} {ad : Nat → Addr} {t : Tab} (Z : Wd G.K mg ad) (F : ∀ i, FG P w G.K mg base k (ad i) (spT G (t i)))
    {f : Addr} {cdv : Value} {A : Around} {outer : List PySem.Env} {s : Shared} {H : Hp} {E : XK} {W : WX} (ok : Okk G (X12 P w G.K mg base f cdv A outer s H E) k) (tk : Takes (X12 P w G.K mg base f cdv A outer s H E) W)
    (hp : PassesOwn (model P w) (X12 P w G.K mg base f cdv A outer s H E).A (X12 P w G.K mg base f cdv A outer s H E).env (X12 P w G.K mg base f cdv A outer s H E).xe) :
    PSsv G (X12 P w G.K mg base f cdv A outer s H E) W (d12 t) (defBody st12) :=
  sv_cons (sv_set (i := 1) ok.nd (ev_call (i := 5) (F 5) ok.room ok.gu tk Z.m5 Z.k5 (lv_cons (ev_var (i := 0)) (lv_nil))))
    (sv_cons (sv_set (i := 2) ok.nd (ev_call (i := 8) (F 8) ok.room ok.gu tk Z.m8 Z.k8 (lv_cons (ev_int) (lv_nil))))
    (sv_cons (sv_set (i := 3) ok.nd (ev_call (i := 10) (F 10) ok.room ok.gu tk Z.m10 Z.k10 (lv_cons (ev_var (i := 2)) (lv_cons (ev_int) (lv_nil)))))
    (sv_cons (sv_for hp ok.calm (iv_val ok.hK (ev_bin op_addV (ds_add ok.hK) (ev_cut ok.hK (ev_call (i := 7) (F 7) ok.room ok.gu tk Z.m7 Z.k7 (lv_cons (ev_var (i := 1)) (lv_cons (ev_lrg2 ok.calm (by rfl) Z.b_list (by rfl) Z.b_range (ev_int) (ev_int)) (lv_nil)))) ov_none (ov_some (ev_int))) (ev_lst (lv_cons (ev_int) (lv_cons (ev_int) (lv_cons (ev_int) (lv_nil))))))) (gv_name (i := 4) ok.nd) (sv_cons (sv_setLc (i := 5) (own := [("_law_k", 9)]) ok.calm ok.nd (iv_range2 (by rfl) Z.b_range (lv_cons (ev_int) (lv_cons (ev_int) (lv_nil)))) (blkOk_by (N := nm12) (sc := defScope st12) (by decide +kernel)) (fun _ _ _ _ _ => gv_name (i := 9) ok.nd) (fun _ _ _ _ _ => tsv_nil) (fun _ _ _ _ _ => ev_call (i := 4) (F 4) ok.room ok.gu takes_no Z.m4 Z.k4 (lv_cons (ev_var (i := 4)) (lv_cons (ev_var (i := 9)) (lv_nil)))) (by simp [Tgt.slots, slotsL]))
    (sv_cons (sv_if (tv_cmp (op_neM ok.u1) (ds_eq ok.hK true) (ev_callB (cr_repr ok.u1 ok.gu) (cs_repr ok.hK) (by rfl) Z.b_repr boot_bi_repr (lv_cons (ev_var (i := 5)) (lv_nil))) (ev_callB (cr_repr ok.u1 ok.gu) (cs_repr ok.hK) (by rfl) Z.b_repr boot_bi_repr (lv_cons (ev_lc (own := [("_law_k", 9)]) ok.calm ok.nd (iv_range2 (by rfl) Z.b_range (lv_cons (ev_int) (lv_cons (ev_int) (lv_nil)))) (blkOk_by (N := nm12) (sc := defScope st12) (by decide +kernel)) (fun _ _ _ _ _ => gv_name (i := 9) ok.nd) (fun _ _ _ _ _ => tsv_nil) (fun _ _ _ _ _ => ev_call (i := 11) (F 11) ok.room ok.gu takes_no Z.m11 Z.k11 (lv_cons (ev_var (i := 2)) (lv_cons (ev_var (i := 3)) (lv_cons (ev_var (i := 4)) (lv_cons (ev_var (i := 9)) (lv_nil)))))) (by simp [Tgt.slots, slotsL])) (lv_nil))) (hm := by with_unfolding_all rfl)) (sv_one (sv_ret (ev_bl))) (sv_nil))
    (sv_cons (sv_if (tv_bool (wv_or (tv_cmp (op_neM ok.u1) (ds_eq ok.hK true) (ev_callB (cr_sum ok.calm) (cs_sum ok.hK) (by rfl) Z.b_sum boot_bi_sum (lv_cons (ev_var (i := 5)) (lv_nil))) (ev_call (i := 1) (F 1) ok.room ok.gu tk Z.m1 Z.k1 (lv_cons (ev_var (i := 4)) (lv_nil))) (hm := by with_unfolding_all rfl)) (wv_or1 (tv_cmp (op_neM ok.u1) (ds_eq ok.hK true) (ev_ix ok.hK ok.u2 (ev_var (i := 5)) (ev_int)) (ev_call (i := 3) (F 3) ok.room ok.gu tk Z.m3 Z.k3 (lv_cons (ev_var (i := 4)) (lv_nil))) (hm := by with_unfolding_all rfl))))) (sv_one (sv_ret (ev_bl))) (sv_nil))
    (sv_cons (sv_if (tv_cmp (op_neM ok.u1) (ds_eq ok.hK true) (ev_lc (own := [("_law_k", 9)]) ok.calm ok.nd (iv_val ok.hK (ev_lst (lv_cons (ev_int) (lv_cons (ev_int) (lv_cons (ev_int) (lv_nil)))))) (blkOk_by (N := nm12) (sc := defScope st12) (by decide +kernel)) (fun _ _ _ _ _ => gv_name (i := 9) ok.nd) (fun _ _ _ _ _ => tsv_nil) (fun _ _ _ _ _ => ev_call (i := 4) (F 4) ok.room ok.gu takes_no Z.m4 Z.k4 (lv_cons (ev_var (i := 4)) (lv_cons (ev_var (i := 9)) (lv_nil)))) (by simp [Tgt.slots, slotsL])) (ev_lst (lv_cons (ev_int) (lv_cons (ev_int) (lv_cons (ev_int) (lv_nil))))) (hm := by with_unfolding_all rfl)) (sv_one (sv_ret (ev_bl))) (sv_nil))
    (sv_one (sv_if (tv_bool (wv_and (tv_cmp (op_eqM ok.u1) (ds_eq ok.hK false) (ev_lc (own := [("_law_b", 10)]) ok.calm ok.nd (iv_range2 (by rfl) Z.b_range (lv_cons (ev_int) (lv_cons (ev_var (i := 4)) (lv_nil)))) (blkOk_by (N := nm12) (sc := defScope st12) (by decide +kernel)) (fun _ _ _ _ _ => gv_name (i := 10) ok.nd) (fun _ _ _ _ _ => tsv_one (tv_cmp (op_eqM ok.u1) (ds_eq ok.hK false) (ev_bin op_mod ds_mod (ev_callTy cr_intV cs_int (by rfl) Z.b_int boot_ty_int (lv_cons (ev_var (i := 4)) (lv_nil))) (ev_var (i := 10))) (ev_int) (hm := by with_unfolding_all rfl))) (fun _ _ _ _ _ => ev_var (i := 10)) (by simp [Tgt.slots, slotsL])) (ev_lst (lv_nil)) (hm := by with_unfolding_all rfl)) (wv_and1 (tv_cmp (op_neM ok.u1) (ds_eq ok.hK true) (ev_cut ok.hK (ev_var (i := 5)) (ov_some (ev_int)) ov_none) (ev_bin op_mulA (ds_mulA ok.hK) (ev_lst (lv_cons (ev_int) (lv_nil))) (ev_int)) (hm := by with_unfolding_all rfl))))) (sv_one (sv_ret (ev_bl))) (sv_nil))))))))
    (sv_cons (sv_for hp ok.calm (iv_val ok.hK (ev_lst (lv_cons (ev_tup (lv_cons (ev_int) (lv_cons (ev_int) (lv_nil)))) (lv_cons (ev_tup (lv_cons (ev_int) (lv_cons (ev_int) (lv_nil)))) (lv_cons (ev_tup (lv_cons (ev_int) (lv_cons (ev_int) (lv_nil)))) (lv_nil)))))) (gv_tup ok.hK ok.calm (gsv_cons (gv_name (i := 6) ok.nd) (gsv_cons (gv_name (i := 7) ok.nd) (gsv_nil))) rfl) (sv_cons (sv_set (i := 8) ok.nd (ev_bin op_mulA (ds_mulA ok.hK) (ev_bin op_mulA (ds_mulA ok.hK) (ev_call (i := 3) (F 3) ok.room ok.gu tk Z.m3 Z.k3 (lv_cons (ev_var (i := 6)) (lv_nil))) (ev_call (i := 3) (F 3) ok.room ok.gu tk Z.m3 Z.k3 (lv_cons (ev_var (i := 7)) (lv_nil)))) (ev_int)))
    (sv_one (sv_if (tv_cmp (op_neM ok.u1) (ds_eq ok.hK true) (ev_call (i := 4) (F 4) ok.room ok.gu tk Z.m4 Z.k4 (lv_cons (ev_bin op_mulA (ds_mulA ok.hK) (ev_var (i := 6)) (ev_var (i := 7))) (lv_cons (ev_int) (lv_nil)))) (ev_var (i := 8)) (hm := by with_unfolding_all rfl)) (sv_one (sv_ret (ev_bl))) (sv_nil)))))
    (sv_one (sv_ret (ev_and ok.hK (ev_cmp (op_eqM ok.u1) (ds_eq ok.hK false) (ev_lc (own := [("_law_k", 9)]) ok.calm ok.nd (iv_val ok.hK (ev_lst (lv_cons (ev_int) (lv_cons (ev_int) (lv_cons (ev_int) (lv_nil)))))) (blkOk_by (N := nm12) (sc := defScope st12) (by decide +kernel)) (fun _ _ _ _ _ => gv_name (i := 9) ok.nd) (fun _ _ _ _ _ => tsv_nil) (fun _ _ _ _ _ => ev_call (i := 4) (F 4) ok.room ok.gu takes_no Z.m4 Z.k4 (lv_cons (ev_int) (lv_cons (ev_var (i := 9)) (lv_nil)))) (by simp [Tgt.slots, slotsL])) (ev_lst (lv_cons (ev_int) (lv_cons (ev_int) (lv_cons (ev_int) (lv_nil))))) (hm := by with_unfolding_all rfl)) (ev_or1 (ev_cmp (op_eqM ok.u1) (ds_eq ok.hK false) (ev_call (i := 4) (F 4) ok.room ok.gu tk Z.m4 Z.k4 (lv_cons (ev_int) (lv_cons (ev_int) (lv_nil)))) (ev_int) (hm := by with_unfolding_all rfl))))))))))
structure Fns (K : PySem.W.Frag) (ad : Nat → Addr) : Prop where
  f0 : ∃ fd, Fun K "shape_counts" "shape_counts" st0 (ad 0) fd ∧ Binds K fd ["m"] []
  f1 : ∃ fd, Fun K "count_tables" "count_tables" st1 (ad 1) fd ∧ Binds K fd ["size"] []
  f2 : ∃ fd, Fun K "first_sizes" "first_sizes" st2 (ad 2) fd ∧ Binds K fd ["size"] []
  f3 : ∃ fd, Fun K "count_primes" "count_primes" st3 (ad 3) fd ∧ Binds K fd ["size"] []
  f4 : ∃ fd, Fun K "count_glued" "count_glued" st4 (ad 4) fd ∧ Binds K fd ["size", "k"] []
  f5 : ∃ fd, Fun K "_law_source" "_law_source" st5 (ad 5) fd ∧ Binds K fd ["_law_script"] []
  f6 : ∃ fd, Fun K "_law_pick" "_law_pick" st6 (ad 6) fd ∧ Binds K fd ["_law_source_here", "_law_many"] []
  f7 : ∃ fd, Fun K "_law_mixed" "_law_mixed" st7 (ad 7) fd ∧ Binds K fd ["_law_source_here", "_law_things"] []
  f8 : ∃ fd, Fun K "_law_counts" "_law_counts" st8 (ad 8) fd ∧ Binds K fd ["_law_most"] []
  f9 : ∃ fd, Fun K "_law_many_tables" "_law_many_tables" st9 (ad 9) fd ∧ Binds K fd ["_law_counts_here", "_law_size"] []
  f10 : ∃ fd, Fun K "_law_many_primes" "_law_many_primes" st10 (ad 10) fd ∧ Binds K fd ["_law_counts_here", "_law_size"] []
  f11 : ∃ fd, Fun K "_law_many_glued" "_law_many_glued" st11 (ad 11) fd ∧ Binds K fd ["_law_counts_here", "_law_primes", "_law_size", "_law_k"] []
  f12 : ∃ fd, Fun K "law" "law" st12 (ad 12) fd ∧ Binds K fd ["_law_script"] []
theorem fgs {G : Gd} {P : Program} {w : World} {mg : Str → Option Value} {base : Heap} {ad : Nat → Addr} (Z : Wd G.K mg ad) (Y : Fns G.K ad) : ∀ k i, FG P w G.K mg base k (ad i) (spT G (tabOf Prog k i))
  | 0, i => fg_zero
  | n + 1, 0 => by
    obtain ⟨fd, F, B⟩ := Y.f0
    exact fg_of (F := ⟨4, 1, d0⟩) (t := tabOf Prog n) F B sc0 rfl rfl (fun _ _ => rfl) fun cdv A outer s H E rm gu tk hp => dv0 Z (fgs Z Y n) ⟨rfl, rfl, sc0.nd, rm, gu⟩ tk hp
  | n + 1, 1 => by
    obtain ⟨fd, F, B⟩ := Y.f1
    exact fg_of (F := ⟨4, 1, d1⟩) (t := tabOf Prog n) F B sc1 rfl rfl (fun _ _ => rfl) fun cdv A outer s H E rm gu tk hp => dv1 Z (fgs Z Y n) ⟨rfl, rfl, sc1.nd, rm, gu⟩ tk hp
  | n + 1, 2 => by
    obtain ⟨fd, F, B⟩ := Y.f2
    exact fg_of (F := ⟨2, 1, d2⟩) (t := tabOf Prog n) F B sc2 rfl rfl (fun _ _ => rfl) fun cdv A outer s H E rm gu tk hp => dv2 Z (fgs Z Y n) ⟨rfl, rfl, sc2.nd, rm, gu⟩ tk hp
  | n + 1, 3 => by
    obtain ⟨fd, F, B⟩ := Y.f3
    exact fg_of (F := ⟨2, 1, d3⟩) (t := tabOf Prog n) F B sc3 rfl rfl (fun _ _ => rfl) fun cdv A outer s H E rm gu tk hp => dv3 Z (fgs Z Y n) ⟨rfl, rfl, sc3.nd, rm, gu⟩ tk hp
  | n + 1, 4 => by
    obtain ⟨fd, F, B⟩ := Y.f4
    exact fg_of (F := ⟨3, 2, d4⟩) (t := tabOf Prog n) F B sc4 rfl rfl (fun _ _ => rfl) fun cdv A outer s H E rm gu tk hp => dv4 Z (fgs Z Y n) ⟨rfl, rfl, sc4.nd, rm, gu⟩ tk hp
  | n + 1, 5 => by
    obtain ⟨fd, F, B⟩ := Y.f5
    exact fg_of (F := ⟨3, 1, d5⟩) (t := tabOf Prog n) F B sc5 rfl rfl (fun _ _ => rfl) fun cdv A outer s H E rm gu tk hp => dv5 Z (fgs Z Y n) ⟨rfl, rfl, sc5.nd, rm, gu⟩ tk hp
  | n + 1, 6 => by
    obtain ⟨fd, F, B⟩ := Y.f6
    exact fg_of (F := ⟨4, 2, d6⟩) (t := tabOf Prog n) F B sc6 rfl rfl (fun _ _ => rfl) fun cdv A outer s H E rm gu tk hp => dv6 Z (fgs Z Y n) ⟨rfl, rfl, sc6.nd, rm, gu⟩ tk hp
  | n + 1, 7 => by
    obtain ⟨fd, F, B⟩ := Y.f7
    exact fg_of (F := ⟨4, 2, d7⟩) (t := tabOf Prog n) F B sc7 rfl rfl (fun _ _ => rfl) fun cdv A outer s H E rm gu tk hp => dv7 Z (fgs Z Y n) ⟨rfl, rfl, sc7.nd, rm, gu⟩ tk hp
  | n + 1, 8 => by
    obtain ⟨fd, F, B⟩ := Y.f8
    exact fg_of (F := ⟨3, 1, d8⟩) (t := tabOf Prog n) F B sc8 rfl rfl (fun _ _ => rfl) fun cdv A outer s H E rm gu tk hp => dv8 Z (fgs Z Y n) ⟨rfl, rfl, sc8.nd, rm, gu⟩ tk hp
  | n + 1, 9 => by
    obtain ⟨fd, F, B⟩ := Y.f9
    exact fg_of (F := ⟨4, 2, d9⟩) (t := tabOf Prog n) F B sc9 rfl rfl (fun _ _ => rfl) fun cdv A outer s H E rm gu tk hp => dv9 Z (fgs Z Y n) ⟨rfl, rfl, sc9.nd, rm, gu⟩ tk hp
  | n + 1, 10 => by
    obtain ⟨fd, F, B⟩ := Y.f10
    exact fg_of (F := ⟨5, 2, d10⟩) (t := tabOf Prog n) F B sc10 rfl rfl (fun _ _ => rfl) fun cdv A outer s H E rm gu tk hp => dv10 Z (fgs Z Y n) ⟨rfl, rfl, sc10.nd, rm, gu⟩ tk hp
  | n + 1, 11 => by
    obtain ⟨fd, F, B⟩ := Y.f11
    exact fg_of (F := ⟨6, 4, d11⟩) (t := tabOf Prog n) F B sc11 rfl rfl (fun _ _ => rfl) fun cdv A outer s H E rm gu tk hp => dv11 Z (fgs Z Y n) ⟨rfl, rfl, sc11.nd, rm, gu⟩ tk hp
  | n + 1, 12 => by
    obtain ⟨fd, F, B⟩ := Y.f12
    exact fg_of (F := ⟨11, 1, d12⟩) (t := tabOf Prog n) F B sc12 rfl rfl (fun _ _ => rfl) fun cdv A outer s H E rm gu tk hp => dv12 Z (fgs Z Y n) ⟨rfl, rfl, sc12.nd, rm, gu⟩ tk hp
  | n + 1, i + 13 => fun A outer s H us vs Q E _ _ _ _ ⟨M, rho, ds, _, _, q⟩ => q.elim
theorem all_mk {l : PySem.W.OpenLaw} {w : World} {K : PySem.W.Frag} {h : Heap} {mg : Str → Option Value} {fa f0 f1 f2 f3 f4 f5 f6 f7 f8 f9 f10 f11 f12 : Addr} (X : K.In h) (G : h.Ns mainGlobals mg) (hfa : mg "law" = some (.ref fa))
    {od0 an0 : Option Addr} {sl0 : Array (Option Value)} {oc0 kV0 dc0 pm0 cd0 ct0 : Value}
    (a0 : PySem.W.nsIn K mainGlobals "shape_counts" = some (some (.ref f0))) (l0 : K.lookup f0 = some ⟨oc0, od0, .func (PySem.W.fnOf "shape_counts" "shape_counts" (defArgs st0) (defBody st0) (defScope st0) .none kV0 dc0 pm0 an0 cd0 ct0), sl0⟩) (c0 : PySem.W.codeIn K cd0 "shape_counts" = true) (k0 : PySem.W.keepIn K (.ref f0) = true)
    {od1 an1 : Option Addr} {sl1 : Array (Option Value)} {oc1 kV1 dc1 pm1 cd1 ct1 : Value}
    (a1 : PySem.W.nsIn K mainGlobals "count_tables" = some (some (.ref f1))) (l1 : K.lookup f1 = some ⟨oc1, od1, .func (PySem.W.fnOf "count_tables" "count_tables" (defArgs st1) (defBody st1) (defScope st1) .none kV1 dc1 pm1 an1 cd1 ct1), sl1⟩) (c1 : PySem.W.codeIn K cd1 "count_tables" = true) (k1 : PySem.W.keepIn K (.ref f1) = true)
    {od2 an2 : Option Addr} {sl2 : Array (Option Value)} {oc2 kV2 dc2 pm2 cd2 ct2 : Value}
    (a2 : PySem.W.nsIn K mainGlobals "first_sizes" = some (some (.ref f2))) (l2 : K.lookup f2 = some ⟨oc2, od2, .func (PySem.W.fnOf "first_sizes" "first_sizes" (defArgs st2) (defBody st2) (defScope st2) .none kV2 dc2 pm2 an2 cd2 ct2), sl2⟩) (c2 : PySem.W.codeIn K cd2 "first_sizes" = true) (k2 : PySem.W.keepIn K (.ref f2) = true)
    {od3 an3 : Option Addr} {sl3 : Array (Option Value)} {oc3 kV3 dc3 pm3 cd3 ct3 : Value}
    (a3 : PySem.W.nsIn K mainGlobals "count_primes" = some (some (.ref f3))) (l3 : K.lookup f3 = some ⟨oc3, od3, .func (PySem.W.fnOf "count_primes" "count_primes" (defArgs st3) (defBody st3) (defScope st3) .none kV3 dc3 pm3 an3 cd3 ct3), sl3⟩) (c3 : PySem.W.codeIn K cd3 "count_primes" = true) (k3 : PySem.W.keepIn K (.ref f3) = true)
    {od4 an4 : Option Addr} {sl4 : Array (Option Value)} {oc4 kV4 dc4 pm4 cd4 ct4 : Value}
    (a4 : PySem.W.nsIn K mainGlobals "count_glued" = some (some (.ref f4))) (l4 : K.lookup f4 = some ⟨oc4, od4, .func (PySem.W.fnOf "count_glued" "count_glued" (defArgs st4) (defBody st4) (defScope st4) .none kV4 dc4 pm4 an4 cd4 ct4), sl4⟩) (c4 : PySem.W.codeIn K cd4 "count_glued" = true) (k4 : PySem.W.keepIn K (.ref f4) = true)
    {od5 an5 : Option Addr} {sl5 : Array (Option Value)} {oc5 kV5 dc5 pm5 cd5 ct5 : Value}
    (a5 : PySem.W.nsIn K mainGlobals "_law_source" = some (some (.ref f5))) (l5 : K.lookup f5 = some ⟨oc5, od5, .func (PySem.W.fnOf "_law_source" "_law_source" (defArgs st5) (defBody st5) (defScope st5) .none kV5 dc5 pm5 an5 cd5 ct5), sl5⟩) (c5 : PySem.W.codeIn K cd5 "_law_source" = true) (k5 : PySem.W.keepIn K (.ref f5) = true)
    {od6 an6 : Option Addr} {sl6 : Array (Option Value)} {oc6 kV6 dc6 pm6 cd6 ct6 : Value}
    (a6 : PySem.W.nsIn K mainGlobals "_law_pick" = some (some (.ref f6))) (l6 : K.lookup f6 = some ⟨oc6, od6, .func (PySem.W.fnOf "_law_pick" "_law_pick" (defArgs st6) (defBody st6) (defScope st6) .none kV6 dc6 pm6 an6 cd6 ct6), sl6⟩) (c6 : PySem.W.codeIn K cd6 "_law_pick" = true) (k6 : PySem.W.keepIn K (.ref f6) = true)
    {od7 an7 : Option Addr} {sl7 : Array (Option Value)} {oc7 kV7 dc7 pm7 cd7 ct7 : Value}
    (a7 : PySem.W.nsIn K mainGlobals "_law_mixed" = some (some (.ref f7))) (l7 : K.lookup f7 = some ⟨oc7, od7, .func (PySem.W.fnOf "_law_mixed" "_law_mixed" (defArgs st7) (defBody st7) (defScope st7) .none kV7 dc7 pm7 an7 cd7 ct7), sl7⟩) (c7 : PySem.W.codeIn K cd7 "_law_mixed" = true) (k7 : PySem.W.keepIn K (.ref f7) = true)
    {od8 an8 : Option Addr} {sl8 : Array (Option Value)} {oc8 kV8 dc8 pm8 cd8 ct8 : Value}
    (a8 : PySem.W.nsIn K mainGlobals "_law_counts" = some (some (.ref f8))) (l8 : K.lookup f8 = some ⟨oc8, od8, .func (PySem.W.fnOf "_law_counts" "_law_counts" (defArgs st8) (defBody st8) (defScope st8) .none kV8 dc8 pm8 an8 cd8 ct8), sl8⟩) (c8 : PySem.W.codeIn K cd8 "_law_counts" = true) (k8 : PySem.W.keepIn K (.ref f8) = true)
    {od9 an9 : Option Addr} {sl9 : Array (Option Value)} {oc9 kV9 dc9 pm9 cd9 ct9 : Value}
    (a9 : PySem.W.nsIn K mainGlobals "_law_many_tables" = some (some (.ref f9))) (l9 : K.lookup f9 = some ⟨oc9, od9, .func (PySem.W.fnOf "_law_many_tables" "_law_many_tables" (defArgs st9) (defBody st9) (defScope st9) .none kV9 dc9 pm9 an9 cd9 ct9), sl9⟩) (c9 : PySem.W.codeIn K cd9 "_law_many_tables" = true) (k9 : PySem.W.keepIn K (.ref f9) = true)
    {od10 an10 : Option Addr} {sl10 : Array (Option Value)} {oc10 kV10 dc10 pm10 cd10 ct10 : Value}
    (a10 : PySem.W.nsIn K mainGlobals "_law_many_primes" = some (some (.ref f10))) (l10 : K.lookup f10 = some ⟨oc10, od10, .func (PySem.W.fnOf "_law_many_primes" "_law_many_primes" (defArgs st10) (defBody st10) (defScope st10) .none kV10 dc10 pm10 an10 cd10 ct10), sl10⟩) (c10 : PySem.W.codeIn K cd10 "_law_many_primes" = true) (k10 : PySem.W.keepIn K (.ref f10) = true)
    {od11 an11 : Option Addr} {sl11 : Array (Option Value)} {oc11 kV11 dc11 pm11 cd11 ct11 : Value}
    (a11 : PySem.W.nsIn K mainGlobals "_law_many_glued" = some (some (.ref f11))) (l11 : K.lookup f11 = some ⟨oc11, od11, .func (PySem.W.fnOf "_law_many_glued" "_law_many_glued" (defArgs st11) (defBody st11) (defScope st11) .none kV11 dc11 pm11 an11 cd11 ct11), sl11⟩) (c11 : PySem.W.codeIn K cd11 "_law_many_glued" = true) (k11 : PySem.W.keepIn K (.ref f11) = true)
    {od12 an12 : Option Addr} {sl12 : Array (Option Value)} {oc12 kV12 dc12 pm12 cd12 ct12 : Value}
    (a12 : PySem.W.nsIn K mainGlobals "law" = some (some (.ref f12))) (l12 : K.lookup f12 = some ⟨oc12, od12, .func (PySem.W.fnOf "law" "law" (defArgs st12) (defBody st12) (defScope st12) .none kV12 dc12 pm12 an12 cd12 ct12), sl12⟩) (c12 : PySem.W.codeIn K cd12 "law" = true) (k12 : PySem.W.keepIn K (.ref f12) = true)
    (z_abs : PySem.W.nsIn K mainGlobals "abs" = some none) (z_int : PySem.W.nsIn K mainGlobals "int" = some none) (z_len : PySem.W.nsIn K mainGlobals "len" = some none) (z_list : PySem.W.nsIn K mainGlobals "list" = some none) (z_max : PySem.W.nsIn K mainGlobals "max" = some none) (z_range : PySem.W.nsIn K mainGlobals "range" = some none) (z_repr : PySem.W.nsIn K mainGlobals "repr" = some none) (z_sum : PySem.W.nsIn K mainGlobals "sum" = some none) :
    ∃ T XT : List Addr, ∀ base : Heap, K.In base → base.Ns mainGlobals mg → FG l.prog w K mg base 200 fa (spT ⟨K, T, XT⟩ (tabOf Prog 200 12)) := by
  have e := hfa.symm.trans (PySem.W.mg_of X G a12)
  cases e
  refine ⟨[], [], fun base _ _ => ?_⟩
  let ad : Nat → Addr := fun i => match i with
    | 0 => f0
    | 1 => f1
    | 2 => f2
    | 3 => f3
    | 4 => f4
    | 5 => f5
    | 6 => f6
    | 7 => f7
    | 8 => f8
    | 9 => f9
    | 10 => f10
    | 11 => f11
    | 12 => fa
    | _ => 0
  have Z : Wd (⟨K, [], []⟩ : Gd).K mg ad := { m0 := PySem.W.mg_of X G a0, k0 := k0, m1 := PySem.W.mg_of X G a1, k1 := k1, m2 := PySem.W.mg_of X G a2, k2 := k2, m3 := PySem.W.mg_of X G a3, k3 := k3, m4 := PySem.W.mg_of X G a4, k4 := k4, m5 := PySem.W.mg_of X G a5, k5 := k5, m6 := PySem.W.mg_of X G a6, k6 := k6, m7 := PySem.W.mg_of X G a7, k7 := k7, m8 := PySem.W.mg_of X G a8, k8 := k8, m9 := PySem.W.mg_of X G a9, k9 := k9, m10 := PySem.W.mg_of X G a10, k10 := k10, m11 := PySem.W.mg_of X G a11, k11 := k11, m12 := PySem.W.mg_of X G a12, k12 := k12, b_abs := PySem.W.mg_none_of X G z_abs, b_int := PySem.W.mg_none_of X G z_int, b_len := PySem.W.mg_none_of X G z_len, b_list := PySem.W.mg_none_of X G z_list, b_max := PySem.W.mg_none_of X G z_max, b_range := PySem.W.mg_none_of X G z_range, b_repr := PySem.W.mg_none_of X G z_repr, b_sum := PySem.W.mg_none_of X G z_sum }
  have Y : Fns (⟨K, [], []⟩ : Gd).K ad := { f0 := (let F := fun_mk (st := st0) l0 c0 k0; ⟨_, F, F.binds fun _ _ _ _ _ _ us hl => match us, hl with | [_], _ => rfl⟩), f1 := (let F := fun_mk (st := st1) l1 c1 k1; ⟨_, F, F.binds fun _ _ _ _ _ _ us hl => match us, hl with | [_], _ => rfl⟩), f2 := (let F := fun_mk (st := st2) l2 c2 k2; ⟨_, F, F.binds fun _ _ _ _ _ _ us hl => match us, hl with | [_], _ => rfl⟩), f3 := (let F := fun_mk (st := st3) l3 c3 k3; ⟨_, F, F.binds fun _ _ _ _ _ _ us hl => match us, hl with | [_], _ => rfl⟩), f4 := (let F := fun_mk (st := st4) l4 c4 k4; ⟨_, F, F.binds fun _ _ _ _ _ _ us hl => match us, hl with | [_, _], _ => rfl⟩), f5 := (let F := fun_mk (st := st5) l5 c5 k5; ⟨_, F, F.binds fun _ _ _ _ _ _ us hl => match us, hl with | [_], _ => rfl⟩), f6 := (let F := fun_mk (st := st6) l6 c6 k6; ⟨_, F, F.binds fun _ _ _ _ _ _ us hl => match us, hl with | [_, _], _ => rfl⟩), f7 := (let F := fun_mk (st := st7) l7 c7 k7; ⟨_, F, F.binds fun _ _ _ _ _ _ us hl => match us, hl with | [_, _], _ => rfl⟩), f8 := (let F := fun_mk (st := st8) l8 c8 k8; ⟨_, F, F.binds fun _ _ _ _ _ _ us hl => match us, hl with | [_], _ => rfl⟩), f9 := (let F := fun_mk (st := st9) l9 c9 k9; ⟨_, F, F.binds fun _ _ _ _ _ _ us hl => match us, hl with | [_, _], _ => rfl⟩), f10 := (let F := fun_mk (st := st10) l10 c10 k10; ⟨_, F, F.binds fun _ _ _ _ _ _ us hl => match us, hl with | [_, _], _ => rfl⟩), f11 := (let F := fun_mk (st := st11) l11 c11 k11; ⟨_, F, F.binds fun _ _ _ _ _ _ us hl => match us, hl with | [_, _, _, _], _ => rfl⟩), f12 := (let F := fun_mk (st := st12) l12 c12 k12; ⟨_, F, F.binds fun _ _ _ _ _ _ us hl => match us, hl with | [_], _ => rfl⟩) }
  exact fgs Z Y 200 12
end Ev

namespace Ev
open PySem L2
def csV : List Int := [0, 1, 1, 2, 5, 14, 42, 132, 429, 1430, 4862, 16796, 58786, 208012, 742900, 2674440, 9694845, 35357670, 129644790, 477638700, 1767263190, 6564120420, 24466267020, 91482563640, 343059613650, 1289904147324, 4861946401452, 18367353072152, 69533550916004, 263747951750360, 1002242216651368, 3814986502092304, 14544636039226909, 55534064877048198, 212336130412243110, 812944042149730764, 3116285494907301262, 11959798385860453492, 45950804324621742364, 176733862787006701400, 680425371729975800390]
def ctV : List Int := [0, 1, 1, 2, 10, 140, 5880, 776160, 332972640, 476150875200, 2315045555222400, 38883505145515430400, 2285805733484270091494400, 475475022233529990271933132800, 353230394017289429773019124357120000, 944693494975599542562153266945656012800000, 9158657006296716347210978789281758467414016000000, 323828772071827218688291208408423952910530531102720000000, 41982713151209904683127589172956357606055619493400602828800000000, 20052568532016802299972973626704949803691518222522522514364354560000000000, 35438166231585631166249574285316458778861746269878282985582370061996646400000000000, 232620390608105690516967245382552673232414653046966868260199800915948852605759488000000000000, 5691352590914614000569602466123395752519063420807747999947211167760445204515134423306485760000000000000, 520659525596025061113143653856634496022730909707240906610253462295163644696788600223290282763953766400000000000000, 178617255694164643441192700829006362694820527502079100029189283903553682213206168588326268136801233247646351360000000000000000, 230399138903534328120480159900412080198033155358781233160352706764611570708686168065141987681311584957176906180920507760640000000000000000, 1120188264289678223569719124130170064010736927224811266532487815933291003827658164223124368526583373874104834527285079167712286964449280000000000000000, 20574893357489637833746814450752025759957831390976109663903872186297841214245761173791287904656716149806704646533645201518990809222115305414784450560000000000000000, 1430645394864358221828664024215505544927974471140420255580223448434152795100386090479849425320357891055562607962520228345485962554788072905518693553400503850762240000000000000000, 377329792576559482427733444785610307114238450035749399853105993623838424895700562004486599569231727135969612134782953532930721264406926330679950402291298867735752657628194406400000000000000000, 378175847720531877655193024509231597577728323840622028452333040615955638248188887283284735166309879010472849015727612344878817931355537819963633068124860788357450406888472603043102316507955200000000000000000, 1442735754471143724963272773142358656085229564657872473033295276072752674728650700164991541933913227768998102704667512659948980763718633756447607848711113544932949203622476902363673036834071379843660696780800000000000000000, 20984066449562222134960813879121512248441796042004816031633075304279724936590369756132322628665912154696467688120766068632996098147456147465984457198744692014796008888931017475408535747387847739487547858814820168297034547200000000000000000, 1165330507594278882325935287798316938278662742202447668332793436329989411347839979392964856098534011243352936468864885416037084700384662351826971088144282928177130498224292949693387073455290160252051877010412480386994731853386699165505945600000000000000000, 247441770633904260642358642298898435888263335656129389907974186765470635726840246284684751657261355019552177989669416619692033035462660387363628874695510661850883167529565144388010500902197474250007781738331205449185306989684570907133958877317103737634816000000000000000000, 201156313215812677250147800332934156891899435612651236187763238254559469316759724809892590090174253964783745439578072338851603988947330026489737414455372053919771242250326233730044654598864186139100961716136748658218708548152506571421098086125289141251427051869588552679424000000000000000000, 626860501083466914375913519958188872507941518017418405721540649438167208617724905273646562266886436635991367182502596104461835909956452821476751029100974028187145069223992053785620380873657334575299773048055505674395483150200097666008199912057056644404798656512700409925560996742250876633088000000000000000000, 7497125209017722659908122688836832333883485176204170127527625202890615770415243217201050026298388743933872256474112053922488516527181973364079367671061840204044088799820748772442461460255940755206183350937729790821000278898417248958383973240434933398569617551330675360169823989127242715327110490701881772343296000000000000000000, 344498933476762254544197618497393665961635710892452837976840168884184691611170540382987335305269861515622528439898701557856235219284242368221454224636181955258817320828095847248293225227160510643294536083992081270830700862548871494440056029854640018393865553472121117528872030978055571358114371993199047449307297441597134674591744000000000000000000, 60884627239352249772787790309103147763107236568859036486420587774855822178282284715795889245259647014437338533633023090117714154275997964831200931588258855929618170360886620120458163788749422305876406935341101772517658936282183146638824780784354765157579058734486929665812808106214694739494269000504615416737453468337600933634732298377338837113241600000000000000000000, 41427445121977264851826752558379676866487117346593320075729217407003419204292379631916171560751673238807772270732615795535067051839226640700368401595153622570998885739876203800674396458411917623713704094008691738157053429829295615663292407833433119679989266186858317486921502951018280891019688262684003689607223338510904866558480866871508457646868200552603974027444224000000000000000000000]
def cpV : List Int := [0, 1, 1, 2, 9, 140, 5876, 776160, 332972621, 476150875196, 2315045555222120, 38883505145515430400, 2285805733484270091482606, 475475022233529990271933132800, 353230394017289429773019124355567680, 944693494975599542562153266945656012799440, 9158657006296716347210978789281758467413350054649, 323828772071827218688291208408423952910530531102720000000, 41982713151209904683127589172956357606055619493400601876498226092, 20052568532016802299972973626704949803691518222522522514364354560000000000, 35438166231585631166249574285316458778861746269878282985582370061992016308889552820, 232620390608105690516967245382552673232414653046966868260199800915948852605759487999996895360, 5691352590914614000569602466123395752519063420807747999947211167760445204515134423228718749708969139200, 520659525596025061113143653856634496022730909707240906610253462295163644696788600223290282763953766400000000000000, 178617255694164643441192700829006362694820527502079100029189283903553682213206168588326268136801233243074739893031458485020792, 230399138903534328120480159900412080198033155358781233160352706764611570708686168065141987681311584957176906180920507760639999999999980400, 1120188264289678223569719124130170064010736927224811266532487815933291003827658164223124368526583373874104834527285079166761336919982220019456133734400, 20574893357489637833746814450752025759957831390976109663903872186297841214245761173791287904656716149806704646533645201518990809222115305414784450559998095396499208, 1430645394864358221828664024215505544927974471140420255580223448434152795100386090479849425320357891055562607962520228345485962554788072905517987092612469271902693961751272565280, 377329792576559482427733444785610307114238450035749399853105993623838424895700562004486599569231727135969612134782953532930721264406926330679950402291298867735752657628194406400000000000000000, 378175847720531877655193024509231597577728323840622028452333040615955638248188887283284735166309879010472849015727612344878817931355537819963633068124860788357450404999085613091903231383648656848505751865680, 1442735754471143724963272773142358656085229564657872473033295276072752674728650700164991541933913227768998102704667512659948980763718633756447607848711113544932949203622476902363673036834071379843660696780800000000000000000, 20984066449562222134960813879121512248441796042004816031633075304279724936590369756132322628665912154696467688120766068632996098147456147465984457198744692014796008888931017475408535747387829422173535265382125746339455983683065166307465381, 1165330507594278882325935287798316938278662742202447668332793436329989411347839979392964856098534011243352936468864885416037084700384662351826971088144282928177130498224292949693387073455290160252051877010412480386994731853386699165505790065979417938278400, 247441770633904260642358642298898435888263335656129389907974186765470635726840246284684751657261355019552177989669416619692033035462660387363628874695510661850883167529565144388010500902197474250007781738331205449184659332140427252696582294900286889728994938937794560000000, 201156313215812677250147800332934156891899435612651236187763238254559469316759724809892590090174253964783745439578072338851603988947330026489737414455372053919771242250326233730044654598864186139100961716136748658218708548152506571421098086125289141251427051869588552679423999999999782675200, 626860501083466914375913519958188872507941518017418405721540649438167208617724905273646562266886436635991367182502596104461835909956452821476751029100974028187145069223992053785620380873657334575299773048055505674395483150200097666008199912056972678978496236703334154747215084027038756250878264849167434640256, 7497125209017722659908122688836832333883485176204170127527625202890615770415243217201050026298388743933872256474112053922488516527181973364079367671061840204044088799820748772442461460255940755206183350937729790821000278898417248958383973240434933398569617551330675360169823989127242715327110490701881772343296000000000000000000, 344498933476762254544197618497393665961635710892452837976840168884184691611170540382987335305269861515622528439898701557856235219284242368221454224636181955258817320828095847248293225227160510643294536083992081270830700862548871494440056029854640018393865553472121117528871990872918507324509772047251794039407690058560689629546715271290880000000000, 60884627239352249772787790309103147763107236568859036486420587774855822178282284715795889245259647014437338533633023090117714154275997964831200931588258855929618170360886620120458163788749422305876406935341101772517658936282183146638824780784354765157579058734486929665812808106214694739494269000504615416737453468337600933634732298377336935213152665880038912267468800, 41427445121977264851826752558379676866487117346593320075729217407003419204292379631916171560751673238807772270732615795535067051839226640700368401595153622570998885739876203800674396458411917623713704094008691738157053429829295615663292407833433119679989266186858317486921502951018280891019688262684003689536347006047733604225981718300875540089144708012847408056279483875967351332328887840]
def cgV1 : List Int := [0, 0, 1, 2, 9, 140, 5876, 776160, 332972621, 476150875196, 2315045555222120, 38883505145515430400, 2285805733484270091482606, 475475022233529990271933132800, 353230394017289429773019124355567680, 944693494975599542562153266945656012799440, 9158657006296716347210978789281758467413350054649, 323828772071827218688291208408423952910530531102720000000, 41982713151209904683127589172956357606055619493400601876498226092, 20052568532016802299972973626704949803691518222522522514364354560000000000, 35438166231585631166249574285316458778861746269878282985582370061992016308889552820, 232620390608105690516967245382552673232414653046966868260199800915948852605759487999996895360, 5691352590914614000569602466123395752519063420807747999947211167760445204515134423228718749708969139200, 520659525596025061113143653856634496022730909707240906610253462295163644696788600223290282763953766400000000000000, 178617255694164643441192700829006362694820527502079100029189283903553682213206168588326268136801233243074739893031458485020792, 230399138903534328120480159900412080198033155358781233160352706764611570708686168065141987681311584957176906180920507760639999999999980400, 1120188264289678223569719124130170064010736927224811266532487815933291003827658164223124368526583373874104834527285079166761336919982220019456133734400, 20574893357489637833746814450752025759957831390976109663903872186297841214245761173791287904656716149806704646533645201518990809222115305414784450559998095396499208, 1430645394864358221828664024215505544927974471140420255580223448434152795100386090479849425320357891055562607962520228345485962554788072905517987092612469271902693961751272565280, 377329792576559482427733444785610307114238450035749399853105993623838424895700562004486599569231727135969612134782953532930721264406926330679950402291298867735752657628194406400000000000000000, 378175847720531877655193024509231597577728323840622028452333040615955638248188887283284735166309879010472849015727612344878817931355537819963633068124860788357450404999085613091903231383648656848505751865680, 1442735754471143724963272773142358656085229564657872473033295276072752674728650700164991541933913227768998102704667512659948980763718633756447607848711113544932949203622476902363673036834071379843660696780800000000000000000, 20984066449562222134960813879121512248441796042004816031633075304279724936590369756132322628665912154696467688120766068632996098147456147465984457198744692014796008888931017475408535747387829422173535265382125746339455983683065166307465381, 1165330507594278882325935287798316938278662742202447668332793436329989411347839979392964856098534011243352936468864885416037084700384662351826971088144282928177130498224292949693387073455290160252051877010412480386994731853386699165505790065979417938278400, 247441770633904260642358642298898435888263335656129389907974186765470635726840246284684751657261355019552177989669416619692033035462660387363628874695510661850883167529565144388010500902197474250007781738331205449184659332140427252696582294900286889728994938937794560000000, 201156313215812677250147800332934156891899435612651236187763238254559469316759724809892590090174253964783745439578072338851603988947330026489737414455372053919771242250326233730044654598864186139100961716136748658218708548152506571421098086125289141251427051869588552679423999999999782675200, 626860501083466914375913519958188872507941518017418405721540649438167208617724905273646562266886436635991367182502596104461835909956452821476751029100974028187145069223992053785620380873657334575299773048055505674395483150200097666008199912056972678978496236703334154747215084027038756250878264849167434640256, 7497125209017722659908122688836832333883485176204170127527625202890615770415243217201050026298388743933872256474112053922488516527181973364079367671061840204044088799820748772442461460255940755206183350937729790821000278898417248958383973240434933398569617551330675360169823989127242715327110490701881772343296000000000000000000, 344498933476762254544197618497393665961635710892452837976840168884184691611170540382987335305269861515622528439898701557856235219284242368221454224636181955258817320828095847248293225227160510643294536083992081270830700862548871494440056029854640018393865553472121117528871990872918507324509772047251794039407690058560689629546715271290880000000000, 60884627239352249772787790309103147763107236568859036486420587774855822178282284715795889245259647014437338533633023090117714154275997964831200931588258855929618170360886620120458163788749422305876406935341101772517658936282183146638824780784354765157579058734486929665812808106214694739494269000504615416737453468337600933634732298377336935213152665880038912267468800, 41427445121977264851826752558379676866487117346593320075729217407003419204292379631916171560751673238807772270732615795535067051839226640700368401595153622570998885739876203800674396458411917623713704094008691738157053429829295615663292407833433119679989266186858317486921502951018280891019688262684003689536347006047733604225981718300875540089144708012847408056279483875967351332328887840]
def cgV2 : List Int := [0, 0, 0, 0, 1, 0, 4, 0, 18, 4, 280, 0, 11788, 0, 1552320, 560, 665945323, 0, 952301773896, 0, 4630091110446760, 3104640, 77767010291030860800, 0, 4571611466968541514961464, 19600, 950950044467059980543866265600, 1904603500784, 706460788034578859546038248725106240, 0, 1889386989951199085124306543151494248132640, 0, 18317314012593432694421957578563516934832693616476, 155534020582061721600, 647657544143654437376582416816847905821061062205440000000, 217324800, 83965426302419809366255178345912715212120382209735149404112663512, 0, 40105137064033604599945947253409899607383036445045045028728709120000000000, 1901900088934119961087732531200, 70876332463171262332499148570632917557723492539756565971164740124025703531005437680]
def cgV3 : List Int := [0, 0, 0, 0, 0, 0, 0, 0, 1, 0, 0, 0, 6, 0, 0, 0, 27, 0, 12, 0, 420, 0, 0, 0, 17736, 0, 0, 8, 2328480, 0, 1680, 0, 998918106, 0, 0, 0, 1428452696208, 0, 0, 0, 6945136665673920]
def cgV4 : List Int := [0, 0, 0, 0, 0, 0, 0, 0, 0, 0, 0, 0, 0, 0, 0, 0, 1, 0, 0, 0, 0, 0, 0, 0, 8, 0, 0, 0, 0, 0, 0, 0, 36, 0, 0, 0, 24, 0, 0, 0, 560]
def cgV5 : List Int := [0, 0, 0, 0, 0, 0, 0, 0, 0, 0, 0, 0, 0, 0, 0, 0, 0, 0, 0, 0, 0, 0, 0, 0, 0, 0, 0, 0, 0, 0, 0, 0, 1, 0, 0, 0, 0, 0, 0, 0, 0]
def cgV6 : List Int := [0, 0, 0, 0, 0, 0, 0, 0, 0, 0, 0, 0, 0, 0, 0, 0, 0, 0, 0, 0, 0, 0, 0, 0, 0, 0, 0, 0, 0, 0, 0, 0, 0, 0, 0, 0, 0, 0, 0, 0, 0]
abbrev cs (n : Nat) : Int := csV.getD n 0
abbrev ct (n : Nat) : Int := ctV.getD n 0
abbrev cp (n : Nat) : Int := cpV.getD n 0
def cg (n k : Nat) : Int := if k = 1 then cgV1.getD n 0 else if k = 2 then cgV2.getD n 0 else if k = 3 then cgV3.getD n 0 else if k = 4 then cgV4.getD n 0 else if k = 5 then cgV5.getD n 0 else if k = 6 then cgV6.getD n 0 else 0
/-- the proper divisors up to the half, by places -/
def fsQ (n i : Nat) : Bool := n % (2 + i) == 0
def fsL (n : Nat) : List Nat := ((List.range (n / 2 - 1)).filter (fsQ n)).map (2 + ·)

/-! ### general -/
theorem dIx_lst {M : Store} {n : Nat} {l : List Int} {i : Int} (h : M[n]? = some (.lst (l.map D.int))) (h0 : 0 ≤ i) (h1 : i < l.length) : dIx (.ref n) (.int i) M = .ok (.int (l.getD i.toNat 0)) M := by
  obtain ⟨j, rfl⟩ : ∃ j : Nat, i = j := ⟨i.toNat, by omega⟩
  have hl : j < l.length := by omega
  have e : atI (l.map D.int) (j : Int) = some (.int (l.getD j 0)) := atI_nat (by
    rw [List.getElem?_map, List.getElem?_eq_getElem hl]
    simp [List.getD_eq_getElem?_getD, List.getElem?_eq_getElem hl])
  rw [Int.toNat_natCast]
  simp only [dIx, h, e]
theorem dEq_int {M : Store} {neg : Bool} {a b : Int} : dEq neg (.int a) (.int b) M = .ok (.bl (if neg then !decide (a = b) else decide (a = b))) M := by
  have hb : PyData.eqv (.int a) (.int b) = decide (a = b) := by
    rw [PyData.eqv]
    by_cases q : a = b <;> simp [q]
  simp only [dEq, toPy, pyD, PyData.canLay0, PyData.depth, hb]
  simp
theorem intsD_map : ∀ l : List Int, intsD (l.map D.int) = some l
  | [] => rfl
  | x :: l => by simp only [List.map_cons, intsD, intsD_map l, Option.map_some]
theorem bSum_at {M : Store} {n : Nat} {l : List Int} (h : M[n]? = some (.lst (l.map D.int))) : bSum [.ref n] M = .ok (.int l.sum) M := by
  simp only [bSum, liveAt, h, intsD_map]
theorem range_map {n : Nat} (g : Nat → Int) : (List.range n).map (fun i => D.int (g i)) = ((List.range n).map g).map D.int := by simp
theorem append_at {P : Store} {a : List D} {N : Store} {d : D} (h : a.length < cap) : mAppend (.ref P.length) [d] (P ++ .lst a :: N) = .ok .non (P ++ .lst (a ++ [d]) :: N) := by
  simp [mAppend, h]
theorem rg_ok {i j : Int} (h : 0 ≤ i ∧ i < 1000 ∧ 0 ≤ j ∧ j < 1000) : -(2 ^ 62) ≤ i ∧ i < 2 ^ 62 ∧ -(2 ^ 62) ≤ j ∧ j < 2 ^ 62 := by
  have : (2 : Int) ^ 62 = 4611686018427387904 := by decide
  omega
theorem fuel_big {n : Nat} (h : n ≤ 1000) : n < FUEL := by unfold FUEL; omega
theorem cap_big {n : Nat} (h : n ≤ 1000) : n < cap := by unfold cap; omega

/-! ### facts of the tables -/
theorem csV_len : csV.length = 41 := by decide +kernel
theorem cs_rec : ∀ n < 41, 2 ≤ n → cs n = ((List.range (n - 1)).map fun i => cs (1 + i) * cs (n - (1 + i))).sum := by decide +kernel
theorem cs_small : ∀ n < 41, (cs n).natAbs.log2 < 100 := by decide +kernel
theorem ct_rec : ∀ n < 41, 1 ≤ n → ct (n + 1) = ct n * cs (n + 1) ∨ n = 40 := by decide +kernel
theorem ct_small : ∀ n < 41, (ct n).natAbs.log2 < 1900 := by decide +kernel
theorem cp_small : ∀ n < 41, (cp n).natAbs.log2 < 1900 := by decide +kernel
theorem cp_rec : ∀ n < 41, 1 ≤ n → cp n = ct n - ((fsL n).map fun b => cp b * ct (n / b)).sum := by decide +kernel
theorem cg_small : ∀ n < 41, ∀ k < 7, (cg n k).natAbs.log2 < 1900 := by decide +kernel
theorem cg_one : ∀ n < 41, 2 ≤ n → cg n 1 = cp n := by decide +kernel
theorem cg_rec7 : ∀ n < 41, ∀ k < 8, 2 ≤ n → 2 ≤ k → cg n k = ((fsL n).map fun b => cp b * cg (n / b) (k - 1)).sum := by decide +kernel
theorem fsL_in : ∀ n < 41, ∀ b ∈ fsL n, 2 ≤ b ∧ 2 * b ≤ n ∧ 2 ≤ n / b ∧ n / b < n := by decide +kernel
theorem mulOk_log {i j : Int} (h1 : i.natAbs.log2 < 2000) (h2 : j.natAbs.log2 < 2000) : mulOk i j = true := by
  unfold mulOk
  simp only [Bool.or_eq_true, decide_eq_true_eq]
  exact .inr (by omega)
end Ev

namespace Ev
open PySem L2
/-! ### shape_counts -/
theorem csE {T : Tab} {M : Store} {n i : Nat} {m sz : Int} {L : List Int} (h : M[n]? = some (.lst (L.map D.int))) (hL : ∀ j < L.length, L.getD j 0 = cs j) (hl : L.length ≤ 41) (hi : (1 : Int) + i < sz) (hs : sz = L.length) :
    d0_e0 T [some (.int m), some (.ref n), some (.int sz), some (.int (1 + (i : Int)))] M = .ok (.int (cs (1 + i) * cs (sz.toNat - (1 + i)))) M := by
  unfold d0_e0
  have e1 := dIx_lst h (i := 1 + (i : Int)) (by omega) (by omega)
  have e2 := dIx_lst h (i := sz - (1 + (i : Int))) (by omega) (by omega)
  have t1 : (1 + (i : Int)).toNat = 1 + i := by omega
  have t2 : (sz - (1 + (i : Int))).toNat = sz.toNat - (1 + i) := by omega
  rw [t1, hL _ (by omega)] at e1
  rw [t2, hL _ (by omega)] at e2
  have hm := mulOk_log (i := cs (1 + i)) (j := cs (sz.toNat - (1 + i))) (Nat.lt_trans (cs_small _ (by omega)) (by decide)) (Nat.lt_trans (cs_small _ (by omega)) (by decide))
  simp only [sSeq, sAsg, sPar, setAll, sRet, sRetN, sIf, sExpr, sAug, sSet, sSkip, sFor, sBreak, sCont, OutS.bindE, asg, asgs, partsD, StepR, Out.bind, eVar, eC, eBin, eUn, eIf, eAn, eOrr, eNt, eTup, eLst, lCons, lNil, eB, eLc, eCall, eMl, eMl0, eCut, oNone, oSome, dCut, eGet1, eGet2, eDict, pCons, pNil, eDicK, eDicT, eLrg1, eLrg2, rgIn1, rgIn2, tOf, asB, tTru, truthD, tNt, tAn, tOrr, itE, itD, itRange1, itRange2, itEnum, dAdd, dSub, dMulA, dMul, dFdiv, dMod, dNeg, dCmp, dLt, dLe, dGt, dGe, dIs, dMulI, dAddI, bAbs, bInt, bLen, bMax, bMin, bSum, bTuple, bList, isLst, List.getElem?_cons_zero, List.getElem?_cons_succ, List.getElem?_nil, List.set_cons_zero, List.set_cons_succ, if_true, if_false, Bool.false_eq_true, decide_eq_true_eq, List.map_cons, List.map_nil, List.replicate, List.length_cons, List.length_nil, List.cons_append, List.nil_append, wipeE, e1, e2, hm]
theorem take_cs {j : Nat} (hj : j + 2 ≤ 41) : (csV.take (j + 2)).length = j + 2 ∧ (∀ i < j + 2, (csV.take (j + 2)).getD i 0 = cs i) ∧ (j + 2 < 41 → csV.take (j + 2) ++ [cs (j + 2)] = csV.take (j + 1 + 2)) := by
  have hl := csV_len
  refine ⟨by rw [List.length_take]; omega, fun i hi => ?_, fun h => ?_⟩
  · simp [List.getD_eq_getElem?_getD, cs, List.getElem?_take, hi]
  · have e := List.take_add_one (l := csV) (i := j + 2)
    rw [List.getElem?_eq_getElem (show j + 2 < csV.length by omega)] at e
    rw [show j + 1 + 2 = j + 2 + 1 by omega, e]
    simp only [cs, List.getD_eq_getElem?_getD, List.getElem?_eq_getElem (show j + 2 < csV.length by omega), Option.getD_some, Option.toList]
theorem cs_turn {T : Tab} {M N : Store} {i : Nat} {m : Int} (hi : i + 2 < 41) :
    ∃ N', d0_b0 T [some (.int m), some (.ref M.length), some (.int (2 + (i : Int))), none] (M ++ .lst ((csV.take (i + 2)).map D.int) :: N) = .nx [some (.int m), some (.ref M.length), some (.int (2 + (i : Int))), none] (M ++ .lst ((csV.take (i + 1 + 2)).map D.int) :: N') := by
  obtain ⟨t1, t2, t3⟩ := take_cs (j := i) (by omega)
  have hat : ∀ acc : List D, ((M ++ .lst ((csV.take (i + 2)).map D.int) :: N) ++ [.lst acc])[M.length]? = some (.lst ((csV.take (i + 2)).map D.int)) := fun acc => app_old (app_at _ _ _) _
  have lc := lcI_rg (it := itRange2 (lCons (eC (.int 1)) (lCons (eVar 2) lNil))) (lo := 1) (n := (2 + (i : Int) - 1).toNat) (j := 3) (f := d0_e0 T) (eta := [some (.int m), some (.ref M.length), some (.int (2 + (i : Int))), none]) (M := M ++ .lst ((csV.take (i + 2)).map D.int) :: N)
    (fun b => cs (1 + b) * cs (i + 2 - (1 + b))) (range2_ok rfl rfl (by omega)) (by omega) (fun b acc hb => by
      have := csE (T := T) (m := m) (hat acc) (i := b) (sz := 2 + (i : Int)) (by intro j hj; exact t2 j (by omega)) (by omega) (by omega) (by omega)
      rw [show (2 + (i : Int)).toNat = i + 2 by omega] at this
      exact this)
  have hsum := bSum_at (M := (M ++ .lst ((csV.take (i + 2)).map D.int) :: N) ++ [.lst (((List.range (2 + (i : Int) - 1).toNat).map fun b => cs (1 + b) * cs (i + 2 - (1 + b))).map D.int)]) (n := (M ++ .lst ((csV.take (i + 2)).map D.int) :: N).length) (app_at _ _ _)
  have hr : ((List.range (2 + (i : Int) - 1).toNat).map fun b => cs (1 + b) * cs (i + 2 - (1 + b))).sum = cs (i + 2) := by
    rw [cs_rec (i + 2) (by omega) (by omega), show (2 + (i : Int) - 1).toNat = i + 2 - 1 by omega]
  rw [hr] at hsum
  generalize (((List.range (2 + (i : Int) - 1).toNat).map fun b => cs (1 + b) * cs (i + 2 - (1 + b))).map D.int) = Z at lc hsum
  refine ⟨N ++ [.lst Z], ?_⟩
  have hap : mAppend (.ref M.length) [.int (cs (i + 2))] ((M ++ .lst ((csV.take (i + 2)).map D.int) :: N) ++ [.lst Z]) = .ok .non (M ++ .lst ((csV.take (i + 1 + 2)).map D.int) :: (N ++ [.lst Z])) := by
    rw [List.append_assoc, List.cons_append, append_at (by rw [List.length_map, t1]; exact cap_big (by omega)), ← t3 (by omega), List.map_append]
    rfl
  exact expr_ok (ml_ok (x := .ref M.length) rfl (by simp only [isLst, app_at]) (l1_ok (bL_ok (l1_ok lc) hsum)) hap)
theorem shape_counts_ok {k : Nat} {M : Store} {m : Int} (h1 : 1 ≤ m) (h2 : m ≤ 40) : tabOf Prog (k + 1) 0 [.int m] M = .ok (.ref M.length) (M ++ [.lst ((csV.take (m.toNat + 1)).map D.int)]) := by
  rw [tab_at (F := ⟨4, 1, d0⟩) rfl rfl]
  generalize tabOf Prog k = T
  show finS M (d0 T [some (.int m), none, none, none] M) = _
  obtain ⟨eta', M', hf, hi2, j, N, rfl, rfl⟩ := sfor_rg (it := itRange2 (lCons (eC (.int 2)) (lCons (eBin dAdd (eVar 0) (eC (.int 1))) (lNil)))) (t := .nm 2) (b := d0_b0 T) (eta := [some (.int m), some (.ref M.length), none, none]) (M := M ++ [.lst [.int 0, .int 1]]) (lo := 2) (n := (m + 1 - 2).toNat)
    (range2_ok rfl rfl (by omega)) (by omega) (fun i eta S => i + 1 ≤ m.toNat ∧ ∃ j N, eta = [some (.int m), some (.ref M.length), j, none] ∧ S = M ++ .lst ((csV.take (i + 2)).map D.int) :: N) ⟨by omega, none, [], rfl, rfl⟩ (fun i eta S hi hI => by
      obtain ⟨hi2, j, N, rfl, rfl⟩ := hI
      obtain ⟨N', hb⟩ := cs_turn (T := T) (M := M) (N := N) (i := i) (m := m) (by omega)
      exact ⟨_, rfl, _, _, hb, by omega, _, _, rfl, rfl⟩)
  have e0 : eLst (lCons (eC (.int 0)) (lCons (eC (.int 1)) lNil)) [some (.int m), none, none, none] M = .ok (.ref M.length) (M ++ [.lst [.int 0, .int 1]]) := by
    simp only [eLst, lCons, lNil, eC, Out.bind, List.length_cons, List.length_nil]
    rw [if_pos (by unfold cap; decide)]
  unfold d0
  rw [seq_nx (asg_ok e0)]
  show finS M (sSeq _ _ [some (.int m), some (.ref M.length), none, none] _) = _
  rw [seq_nx hf, ret_ok (f := eVar 1) (d := .ref M.length) rfl, show (m + 1 - 2).toNat + 2 = m.toNat + 1 by omega]
  exact fin_ints (Nat.le_refl _) (app_at _ _ _)
end Ev

namespace Ev
open PySem L2
theorem dMulI_ok {a b : Int} {M : Store} (h1 : a.natAbs.log2 < 2000) (h2 : b.natAbs.log2 < 2000) : dMulI (.int a) (.int b) M = .ok (.int (a * b)) M := by
  simp only [dMulI]; rw [if_pos (by omega)]
theorem dMulA_ok {a b : Int} {M : Store} (h1 : a.natAbs.log2 < 2000) (h2 : b.natAbs.log2 < 2000) : dMulA (.int a) (.int b) M = .ok (.int (a * b)) M := by
  simp only [dMulA, dMul, mulOk_log h1 h2, if_true]
theorem dFdiv_ok {a b : Int} {M : Store} (h1 : 0 < b) (h2 : b < 1000) : dFdiv (.int a) (.int b) M = .ok (.int (a / b)) M := by
  simp only [dFdiv]
  rw [if_pos ⟨h1, by have : b.natAbs.log2 ≤ b.natAbs := Nat.log2_le_self _; omega⟩]
theorem dMod_ok {a b : Int} {M : Store} (h1 : 0 < b) : dMod (.int a) (.int b) M = .ok (.int (a % b)) M := by
  simp only [dMod]; rw [if_pos h1]
theorem cl (n : Nat) (h : n < 41) : (cs n).natAbs.log2 < 2000 := Nat.lt_trans (cs_small n h) (by decide)
theorem tl (n : Nat) (h : n < 41) : (ct n).natAbs.log2 < 2000 := Nat.lt_trans (ct_small n h) (by decide)
theorem pl (n : Nat) (h : n < 41) : (cp n).natAbs.log2 < 2000 := Nat.lt_trans (cp_small n h) (by decide)
theorem ct_next {n : Nat} (h1 : 1 ≤ n) (h2 : n < 40) : ct (n + 1) = ct n * cs (n + 1) := by
  rcases ct_rec n (by omega) h1 with h | h
  · exact h
  · omega
theorem ct_one : ct 1 = 1 := by decide +kernel
/-! ### count_tables -/
theorem count_tables_ok {k : Nat} {M : Store} {m : Int} (h1 : 1 ≤ m) (h2 : m ≤ 40) : tabOf Prog (k + 2) 1 [.int m] M = .ok (.int (ct m.toNat)) M := by
  rw [tab_at (F := ⟨4, 1, d1⟩) rfl rfl]
  have hc := shape_counts_ok (k := k) (M := M) h1 h2
  generalize tabOf Prog (k + 1) = T at hc ⊢
  show finS M (d1 T [some (.int m), none, none, none] M) = _
  obtain ⟨j, hj⟩ : ∃ j, m.toNat + 1 = j + 2 := ⟨m.toNat - 1, by omega⟩
  rw [hj] at hc
  obtain ⟨t1, t2, _⟩ := take_cs (j := j) (by omega)
  obtain ⟨eta', M', hf, hi2, q, rfl, rfl⟩ := sfor_rg (it := itRange2 (lCons (eC (.int 2)) (lCons (eBin dAdd (eVar 0) (eC (.int 1))) (lNil)))) (t := .nm 3) (b := d1_b0 T) (eta := [some (.int m), some (.ref M.length), some (.int 1), none]) (M := M ++ [.lst ((csV.take (j + 2)).map D.int)]) (lo := 2) (n := (m + 1 - 2).toNat)
    (range2_ok rfl rfl (by omega)) (by omega) (fun i eta S => i + 1 ≤ m.toNat ∧ ∃ q, eta = [some (.int m), some (.ref M.length), some (.int (ct (i + 1))), q] ∧ S = M ++ [.lst ((csV.take (j + 2)).map D.int)]) ⟨by omega, none, by rw [ct_one], rfl⟩ (fun i eta S hi hI => by
      obtain ⟨hi2, q, rfl, rfl⟩ := hI
      have hd := dIx_lst (M := M ++ [.lst ((csV.take (j + 2)).map D.int)]) (app_at _ _ _) (i := 2 + (i : Int)) (by omega) (by omega)
      rw [show (2 + (i : Int)).toNat = i + 2 by omega, t2 _ (by omega)] at hd
      refine ⟨_, rfl, _, _, aug_ok rfl (bi_ok rfl rfl hd) (dMulI_ok (tl _ (by omega)) (cl _ (by omega))), by omega, some (.int (2 + (i : Int))), ?_, rfl⟩
      rw [← ct_next (n := i + 1) (by omega) (by omega)]
      rfl)
  unfold d1
  rw [seq_nx (par2_ok (l2_ok (callL_ok (l1_ok rfl) hc) rfl))]
  show finS M (sSeq _ _ [some (.int m), some (.ref M.length), some (.int 1), none] _) = _
  rw [seq_nx hf, ret_ok (f := eVar 2) rfl, show (m + 1 - 2).toNat + 1 = m.toNat by omega]
  exact fin_int
/-! ### first_sizes -/
theorem pg2 : Prog[2]? = some ⟨2, 1, d2⟩ := rfl
theorem ent2 {k : Nat} {x : Int} {M : Store} : tabOf Prog (k + 1) 2 [.int x] M = finS M (d2 (tabOf Prog k) [some (.int x), none] M) := tab_at (F := ⟨2, 1, d2⟩) pg2 rfl
def fsI (n : Nat) : List Int := (fsL n).map fun (b : Nat) => (b : Int)
theorem first_sizes_ok {k : Nat} {M : Store} {n : Nat} (h2 : n ≤ 40) : tabOf Prog (k + 1) 2 [.int n] M = .ok (.ref M.length) (M ++ [.lst ((fsI n).map D.int)]) := by
  rw [ent2]
  generalize tabOf Prog k = T
  have hlen : ((n : Int) / 2 + 1 - 2).toNat = n / 2 - 1 := by omega
  have hnn : (n : Int) / 2 + 1 < 1000 ∧ 0 ≤ (n : Int) / 2 + 1 := by omega
  have hr : itRange2 (lCons (eC (.int 2)) (lCons (eBin dAdd (eBin dFdiv (eVar 0) (eC (.int 2))) (eC (.int 1))) (lNil))) [some (.int n), none] M = .ok (itRg 2 ((n : Int) / 2 + 1 - 2).toNat) M :=
    range2_ok rfl (bi_ok (bi_ok (x := .int n) rfl rfl (dFdiv_ok (by decide) (by decide))) rfl rfl) ⟨by decide, by decide, hnn.2, hnn.1⟩
  have e3 := lcI_rgf (it := itRange2 (lCons (eC (.int 2)) (lCons (eBin dAdd (eBin dFdiv (eVar 0) (eC (.int 2))) (eC (.int 1))) (lNil)))) (j := 1) (c := d2_q0 T) (f := d2_e0 T) (eta := [some (.int n), none]) (M := M) (fsQ n) (fun i => 2 + (i : Int)) hr (by omega) (fun i acc hi => ⟨by
      have e : fsQ n i = decide ((n : Int) % (2 + (i : Int)) = 0) := by
        unfold fsQ
        rw [Bool.eq_iff_iff]
        simp only [beq_iff_eq, decide_eq_true_eq]
        have hz : ((n : Int) % (2 + (i : Int))) = ((n % (2 + i) : Nat) : Int) := by simp
        rw [hz]
        omega
      rw [e]
      exact tOf_ok (bi_ok (bi_ok (x := .int n) (y := .int (2 + (i : Int))) rfl rfl (dMod_ok (by omega))) rfl (dEq_int.trans rfl)), fun _ => rfl⟩)
  have e2 : ((List.range ((n : Int) / 2 + 1 - 2).toNat).filter (fsQ n)).map (fun (i : Nat) => 2 + (i : Int)) = fsI n := by
    unfold fsI fsL
    rw [hlen, List.map_map]
    refine List.map_congr_left fun i _ => ?_
    simp
  rw [e2] at e3
  unfold d2
  rw [ret_ok e3]
  exact fin_ints (Nat.le_refl _) (app_at _ _ _)
/-! ### count_primes -/
theorem count_primes_ok : ∀ (f n : Nat), n ≤ f → 1 ≤ n → n ≤ 40 → ∀ (k : Nat) (M : Store), tabOf Prog (k + f + 3) 3 [.int n] M = .ok (.int (cp n)) M
  | 0, n, h, h1, _, k, M => by omega
  | f + 1, n, h, h1, h2, k, M => by
    rw [show k + (f + 1) + 3 = (k + f + 3) + 1 by omega, tab_at (F := ⟨2, 1, d3⟩) rfl rfl]
    have hct : ∀ (M : Store) (m : Nat), 1 ≤ m → m ≤ 40 → tabOf Prog (k + f + 3) 1 [.int m] M = .ok (.int (ct m)) M := fun M m q1 q2 => by
      have := count_tables_ok (k := k + f + 1) (M := M) (m := m) (by omega) (by omega)
      rwa [Int.toNat_natCast] at this
    have hfs := first_sizes_ok (k := k + f + 2) (M := M) h2
    have hrec := fun b q1 q2 q3 M => count_primes_ok f b q1 q2 q3 k M
    rw [show k + f + 2 + 1 = k + f + 3 by omega] at hfs
    generalize tabOf Prog (k + f + 3) = T at hct hfs hrec ⊢
    show finS M (d3 T [some (.int n), none] M) = _
    have lc := lcI_ints (e := eCall T 2 (lCons (eVar 0) lNil)) (j := 1) (f := d3_e0 T) (eta := [some (.int n), none]) (M := M) (fsI n) (fun b => cp b.toNat * ct (n / b.toNat)) (callL_ok (l1_ok rfl) hfs) (app_at _ _ _) (by unfold fsI fsL; simp; have := List.length_filter_le (fsQ n) (List.range (n / 2 - 1)); simp at this; omega)
      (fun x acc hx => by
        obtain ⟨b, hb, rfl⟩ := List.mem_map.mp hx
        obtain ⟨b1, b2, b3, b4⟩ := fsL_in n (by omega) b hb
        have ex : ((n : Int) / (b : Int)) = ((n / b : Nat) : Int) := by simp
        refine bi_ok (callL_ok (l1_ok rfl) (hrec b (by omega) (by omega) (by omega) _)) (callL_ok (l1_ok (bi_ok (x := .int n) (y := .int b) rfl rfl ((dFdiv_ok (by omega) (by omega)).trans (by rw [ex])))) (hct _ (n / b) (by omega) (by omega))) ?_
        rw [Int.toNat_natCast]
        exact dMulA_ok (pl _ (by omega)) (tl _ (by omega)))
    have hs := bSum_at (M := (M ++ [.lst ((fsI n).map D.int)]) ++ [.lst (((fsI n).map fun b => cp b.toNat * ct (n / b.toNat)).map D.int)]) (n := (M ++ [MO.lst ((fsI n).map D.int)]).length) (app_at _ _ _)
    have e : cp n = ct n - ((fsI n).map fun b => cp b.toNat * ct (n / b.toNat)).sum := by
      rw [cp_rec n (by omega) h1]
      unfold fsI
      rw [List.map_map]
      rfl
    unfold d3
    rw [ret_ok (bi_ok (x := .int (ct n)) (callL_ok (l1_ok rfl) (hct _ n h1 h2)) (bL_ok (l1_ok lc) hs) rfl), ← e, List.append_assoc]
    exact fin_int
/-! ### count_glued -/
theorem cg_rec {n k : Nat} (h1 : n < 41) (h2 : 2 ≤ n) (h3 : 2 ≤ k) : cg n k = ((fsL n).map fun b => cp b * cg (n / b) (k - 1)).sum := by
  by_cases hk : k < 8
  · exact cg_rec7 n h1 k hk h2 h3
  · have z : ∀ m q, 7 ≤ q → cg m q = 0 := fun m q hq => by
      unfold cg
      rw [if_neg (by omega), if_neg (by omega), if_neg (by omega), if_neg (by omega), if_neg (by omega), if_neg (by omega)]
    rw [z n k (by omega)]
    have : ∀ l : List Nat, (l.map fun b => cp b * cg (n / b) (k - 1)).sum = 0 := fun l => by
      induction l with
      | nil => rfl
      | cons b l ih => rw [List.map_cons, List.sum_cons, ih, z _ _ (by omega)]; simp
    rw [this]
theorem gl (n k : Nat) (h : n < 41) : (cg n k).natAbs.log2 < 2000 := by
  by_cases hk : k < 7
  · exact Nat.lt_trans (cg_small n h k hk) (by decide)
  · unfold cg
    rw [if_neg (by omega), if_neg (by omega), if_neg (by omega), if_neg (by omega), if_neg (by omega), if_neg (by omega)]
    decide
theorem count_glued_ok : ∀ (f n : Nat), n ≤ f → 2 ≤ n → n ≤ 40 → ∀ (q : Nat), 1 ≤ q → q ≤ 60 → ∀ (k : Nat) (M : Store), tabOf Prog (k + f + 4) 4 [.int n, .int q] M = .ok (.int (cg n q)) M
  | 0, n, h, h1, _, _, _, _, k, M => by omega
  | f + 1, n, h, h1, h2, q, q1, q2, k, M => by
    rw [show k + (f + 1) + 4 = (k + f + 4) + 1 by omega, tab_at (F := ⟨3, 2, d4⟩) rfl rfl]
    have hcp : ∀ (M : Store) (m : Nat), 1 ≤ m → m ≤ f + 1 → m ≤ 40 → tabOf Prog (k + f + 4) 3 [.int m] M = .ok (.int (cp m)) M := fun M m q1 q3 q2 => by
      have := count_primes_ok (f + 1) m q3 q1 q2 k M
      rwa [show k + (f + 1) + 3 = k + f + 4 by omega] at this
    have hfs := first_sizes_ok (k := k + f + 3) (M := M) h2
    have hrec := fun b p1 p2 p3 r p4 p5 M => count_glued_ok f b p1 p2 p3 r p4 p5 k M
    rw [show k + f + 3 + 1 = k + f + 4 by omega] at hfs
    generalize tabOf Prog (k + f + 4) = T at hcp hfs hrec ⊢
    show finS M (d4 T [some (.int n), some (.int q), none] M) = _
    unfold d4
    by_cases hq : q = 1
    · subst hq
      rw [seq_rt (d := .int (cp n)) (M' := M) (by
        rw [if_yes (M1 := M) (tOf_ok (bi_ok rfl rfl dEq_int))]
        exact ret_ok (callL_ok (l1_ok rfl) (hcp M n (by omega) h h2))), ← cg_one n (by omega) h1]
      exact fin_int0
    · rw [seq_nx (eta' := [some (.int n), some (.int q), none]) (M' := M) (by
        rw [if_no (M1 := M) (tOf_ok (bi_ok rfl rfl (dEq_int.trans (by simp; omega))))]
        rfl)]
      have lc := lcI_ints (e := eCall T 2 (lCons (eVar 0) lNil)) (j := 2) (f := d4_e0 T) (eta := [some (.int n), some (.int q), none]) (M := M) (fsI n) (fun b => cp b.toNat * cg (n / b.toNat) (q - 1)) (callL_ok (l1_ok rfl) hfs) (app_at _ _ _) (by unfold fsI fsL; simp; have := List.length_filter_le (fsQ n) (List.range (n / 2 - 1)); simp at this; omega)
        (fun x acc hx => by
          obtain ⟨b, hb, rfl⟩ := List.mem_map.mp hx
          obtain ⟨b1, b2, b3, b4⟩ := fsL_in n (by omega) b hb
          have ex : ((n : Int) / (b : Int)) = ((n / b : Nat) : Int) := by simp
          have eq : (q : Int) - 1 = ((q - 1 : Nat) : Int) := by omega
          refine bi_ok (callL_ok (l1_ok rfl) (hcp _ b (by omega) (by omega) (by omega))) (callL_ok (l2_ok (bi_ok (x := .int n) (y := .int b) rfl rfl ((dFdiv_ok (by omega) (by omega)).trans (by rw [ex]))) (bi_ok (x := .int q) (y := .int 1) rfl rfl (by show Out.ok (D.int ((q : Int) - 1)) _ = _; rw [eq]))) (hrec (n / b) (by omega) (by omega) (by omega) (q - 1) (by omega) (by omega) _)) ?_
          rw [Int.toNat_natCast]
          exact dMulA_ok (pl _ (by omega)) (gl _ _ (by omega)))
      have hs := bSum_at (M := (M ++ [.lst ((fsI n).map D.int)]) ++ [.lst (((fsI n).map fun b => cp b.toNat * cg (n / b.toNat) (q - 1)).map D.int)]) (n := (M ++ [MO.lst ((fsI n).map D.int)]).length) (app_at _ _ _)
      have e : cg n q = ((fsI n).map fun b => cp b.toNat * cg (n / b.toNat) (q - 1)).sum := by
        rw [cg_rec (by omega) h1 (by omega)]
        unfold fsI
        rw [List.map_map]
        rfl
      rw [ret_ok (bL_ok (l1_ok lc) hs), ← e, List.append_assoc]
      exact fin_int
end Ev

namespace Ev
open PySem L2
theorem dMulA_l {a b : Int} {M : Store} (h : -(2 ^ 64) < a ∧ a < 2 ^ 64) : dMulA (.int a) (.int b) M = .ok (.int (a * b)) M := by
  have : mulOk a b = true := by
    unfold mulOk
    simp only [Bool.or_eq_true, decide_eq_true_eq]
    exact .inl (.inl h)
  simp only [dMulA, dMul, this, if_true]
theorem dMulA_r {a b : Int} {M : Store} (h : -(2 ^ 64) < b ∧ b < 2 ^ 64) : dMulA (.int a) (.int b) M = .ok (.int (a * b)) M := by
  simp only [dMulA, dMul, mul1 h, if_true]
theorem take_step {j : Nat} (h : j < 41) : csV.take j ++ [cs j] = csV.take (j + 1) := by
  have hl := csV_len
  have e := List.take_add_one (l := csV) (i := j)
  rw [List.getElem?_eq_getElem (show j < csV.length by omega)] at e
  rw [e]
  simp only [cs, List.getD_eq_getElem?_getD, List.getElem?_eq_getElem (show j < csV.length by omega), Option.getD_some, Option.toList]
theorem dIx_last {M : Store} {n : Nat} {L : List Int} {x : Int} (h : M[n]? = some (.lst ((L ++ [x]).map D.int))) : dIx (.ref n) (.int (-1)) M = .ok (.int x) M := by
  have e : atI ((L ++ [x]).map D.int) (-1) = some (.int x) := by rw [List.map_append]; exact atI_last _ _
  simp only [dIx, h, e]
theorem cat_rec : ∀ i < 39, cs (i + 1) * (4 * (2 + (i : Int)) - 6) / (2 + (i : Int)) = cs (i + 2) := by decide +kernel
/-! ### _law_counts -/
theorem pg8 : Prog[8]? = some ⟨3, 1, d8⟩ := rfl
theorem ent8 {k : Nat} {x : Int} {M : Store} : tabOf Prog (k + 1) 8 [.int x] M = finS M (d8 (tabOf Prog k) [some (.int x), none, none] M) := tab_at (F := ⟨3, 1, d8⟩) pg8 rfl
theorem law_counts_ok {k : Nat} {M : Store} : tabOf Prog (k + 1) 8 [.int 40] M = .ok (.ref M.length) (M ++ [.lst (csV.map D.int)]) := by
  rw [ent8]
  generalize tabOf Prog k = T
  obtain ⟨eta', M', hf, j, rfl, rfl⟩ := sfor_rg (it := itRange2 (lCons (eC (.int 2)) (lCons (eBin dAdd (eVar 0) (eC (.int 1))) (lNil)))) (t := .nm 2) (b := d8_b0 T) (eta := [some (.int 40), some (.ref M.length), none]) (M := M ++ [.lst [.int 0, .int 1]]) (lo := 2) (n := 39)
    (range2_ok (i := 2) (j := 41) rfl rfl (by decide)) (by omega) (fun i eta S => ∃ j, eta = [some (.int 40), some (.ref M.length), j] ∧ S = M ++ [.lst ((csV.take (i + 2)).map D.int)]) ⟨none, rfl, rfl⟩ (fun i eta S hi hI => by
      obtain ⟨j, rfl, rfl⟩ := hI
      obtain ⟨t1, _, _⟩ := take_cs (j := i) (by omega)
      have hl := dIx_last (M := M ++ [.lst ((csV.take (i + 2)).map D.int)]) (n := M.length) (L := csV.take (i + 1)) (x := cs (i + 1)) (by rw [take_step (by omega)]; exact app_at _ _ _)
      have hap : mAppend (.ref M.length) [.int (cs (i + 2))] (M ++ [.lst ((csV.take (i + 2)).map D.int)]) = .ok .non (M ++ [.lst ((csV.take (i + 1 + 2)).map D.int)]) := by
        rw [append_at (by rw [List.length_map, t1]; exact cap_big (by omega)), show i + 1 + 2 = i + 2 + 1 by omega, ← take_step (j := i + 2) (by omega), List.map_append]
        rfl
      have hv := cat_rec i (by omega)
      refine ⟨_, rfl, _, _, expr_ok (ml_ok (x := .ref M.length) rfl (by simp only [isLst, app_at]) (l1_ok (bi_ok (bi_ok (bi_ok (x := .ref M.length) (y := .int (-1)) rfl rfl hl) (bi_ok (bi_ok (x := .int 4) (y := .int (2 + (i : Int))) rfl rfl (dMulA_l (by decide))) rfl rfl) (dMulA_ok (cl _ (by omega)) (by
        have : (4 * (2 + (i : Int)) - 6).natAbs.log2 ≤ (4 * (2 + (i : Int)) - 6).natAbs := Nat.log2_le_self _
        omega))) (y := .int (2 + (i : Int))) rfl ((dFdiv_ok (by omega) (by omega)).trans (by rw [hv])))) hap), some (.int (2 + (i : Int))), rfl, rfl⟩)
  have e0 : eLst (lCons (eC (.int 0)) (lCons (eC (.int 1)) lNil)) [some (.int 40), none, none] M = .ok (.ref M.length) (M ++ [.lst [.int 0, .int 1]]) := lst_ok (l2_ok rfl rfl) (by unfold cap; decide)
  unfold d8
  rw [seq_nx (asg_ok e0)]
  show finS M (sSeq _ _ [some (.int 40), some (.ref M.length), none] _) = _
  rw [seq_nx hf, ret_ok (f := eVar 1) (d := .ref M.length) rfl, List.take_of_length_le (by rw [csV_len]; omega)]
  exact fin_ints (Nat.le_refl _) (app_at _ _ _)
/-! ### _law_many_tables -/
theorem cs_at {M : Store} {c : Nat} (h : M[c]? = some (.lst (csV.map D.int))) {n : Nat} (hn : n < 41) : dIx (.ref c) (.int (n : Int)) M = .ok (.int (cs n)) M := by
  have := dIx_lst h (i := (n : Int)) (by omega) (by rw [csV_len]; omega)
  rwa [Int.toNat_natCast] at this
theorem pg9 : Prog[9]? = some ⟨4, 2, d9⟩ := rfl
theorem ent9 {k c : Nat} {x : Int} {M : Store} : tabOf Prog (k + 1) 9 [.ref c, .int x] M = finS M (d9 (tabOf Prog k) [some (.ref c), some (.int x), none, none] M) := tab_at (F := ⟨4, 2, d9⟩) pg9 rfl
theorem many_tables_ok {k c n : Nat} {M : Store} (h : M[c]? = some (.lst (csV.map D.int))) (h1 : 1 ≤ n) (h2 : n ≤ 40) : tabOf Prog (k + 1) 9 [.ref c, .int n] M = .ok (.int (ct n)) M := by
  rw [ent9]
  generalize tabOf Prog k = T
  obtain ⟨eta', M', hf, hi2, j, rfl, hM⟩ := sfor_rg (it := itRange2 (lCons (eC (.int 2)) (lCons (eBin dAdd (eVar 1) (eC (.int 1))) (lNil)))) (t := .nm 3) (b := d9_b0 T) (eta := [some (.ref c), some (.int n), some (.int 1), none]) (M := M) (lo := 2) (n := ((n : Int) + 1 - 2).toNat)
    (range2_ok rfl rfl (by omega)) (by omega) (fun i eta S => i + 1 ≤ n ∧ ∃ j, eta = [some (.ref c), some (.int n), some (.int (ct (i + 1))), j] ∧ S = M) ⟨by omega, none, by rw [ct_one], rfl⟩ (fun i eta S hi hI => by
      obtain ⟨hi2, j, rfl, hS⟩ := hI
      rw [hS]
      have hd := cs_at h (n := i + 2) (by omega)
      rw [show ((i + 2 : Nat) : Int) = 2 + (i : Int) by omega] at hd
      refine ⟨_, rfl, _, _, asg_ok (bi_ok (x := .int (ct (i + 1))) rfl (bi_ok (x := .ref c) (y := .int (2 + (i : Int))) rfl rfl hd) (dMulA_ok (tl _ (by omega)) (cl _ (by omega)))), by omega, some (.int (2 + (i : Int))), ?_, rfl⟩
      rw [← ct_next (n := i + 1) (by omega) (by omega)]
      rfl)
  rw [hM] at hf
  unfold d9
  rw [seq_nx (asg_ok (f := eC (.int 1)) rfl)]
  show finS M (sSeq _ _ [some (.ref c), some (.int n), some (.int 1), none] _) = _
  rw [seq_nx hf, ret_ok (f := eVar 2) rfl, show ((n : Int) + 1 - 2).toNat + 1 = n by omega]
  exact fin_int0
/-! ### _law_many_primes -/
abbrev pk (i : Nat) : Key := Sum.inl (2 + (i : Int))
theorem pk_inj {i j : Nat} : pk i = pk j ↔ i = j := by
  constructor
  · intro h
    have := Sum.inl.inj h
    omega
  · intro h; rw [h]
def dicP (j : Nat) : List (Key × D) := (List.range j).map fun i => (pk i, D.int (cp (2 + i)))
theorem dicP_succ (j : Nat) : dicP (j + 1) = dicP j ++ [(pk j, .int (cp (2 + j)))] := by unfold dicP; rw [List.range_succ]; simp
theorem dicP_len (j : Nat) : (dicP j).length = j := by simp [dicP]
theorem findK_app {xs ys : List (Key × D)} {k : Key} : findK (xs ++ ys) k = match findK xs k with
    | some d => some d
    | none => findK ys k := by
  induction xs with
  | nil => rfl
  | cons p xs ih =>
    obtain ⟨q, d⟩ := p
    simp only [List.cons_append, findK]
    by_cases h : q = k
    · rw [if_pos h, if_pos h]
    · rw [if_neg h, if_neg h]; exact ih
theorem findK_dicP (b : Nat) : ∀ j, findK (dicP j) (pk b) = if b < j then some (.int (cp (2 + b))) else none
  | 0 => rfl
  | j + 1 => by
    rw [dicP_succ, findK_app, findK_dicP b j]
    by_cases h : b < j
    · rw [if_pos h, if_pos (by omega)]
    · rw [if_neg h]
      simp only [findK]
      by_cases h2 : j = b
      · subst h2; rw [if_pos rfl, if_pos (by omega)]
      · rw [if_neg (fun z => h2 (pk_inj.mp z)), if_neg (by omega)]
theorem mem_dicP {p : Key × D} {j : Nat} (h : p ∈ dicP j) : ∃ i, i < j ∧ p.1 = pk i := by
  obtain ⟨i, hi, rfl⟩ := List.mem_map.mp h
  exact ⟨i, List.mem_range.mp hi, rfl⟩
theorem putD_new {j : Nat} {d : D} : putD (dicP j) (pk j) d = dicP j ++ [(pk j, d)] := by
  unfold putD
  rw [if_neg]
  intro h
  obtain ⟨p, h1, h2⟩ := List.any_eq_true.mp h
  obtain ⟨i, h3, h4⟩ := mem_dicP h1
  rw [h4] at h2
  have := pk_inj.mp (of_decide_eq_true h2)
  omega
theorem putD_old {j : Nat} {v d : D} : putD (dicP j ++ [(pk j, v)]) (pk j) d = dicP j ++ [(pk j, d)] := by
  unfold putD
  rw [if_pos (by simp), List.map_append]
  congr 1
  · refine (List.map_congr_left fun p hp => ?_).trans (List.map_id _)
    obtain ⟨i, h3, h4⟩ := mem_dicP hp
    rw [h4, if_neg (fun z => by have := pk_inj.mp z; omega)]
    rfl
  · simp
theorem dIx_dic {M : Store} {n : Nat} {kvs : List (Key × D)} {i : Int} {d : D} (h : M[n]? = some (.dicK kvs)) (hf : findK kvs (Sum.inl i) = some d) : dIx (.ref n) (.int i) M = .ok d M := by
  simp only [dIx, dictAt, h, keyK, hf]
theorem setD_dic {P : Store} {kvs : List (Key × D)} {i : Int} {d : D} (h : kvs.length < cap) : setD (.ref P.length) (.int i) d (P ++ [.dicK kvs]) = .ok () (P ++ [.dicK (putD kvs (Sum.inl i) d)]) := by
  simp only [setD, app_at, keyK, if_pos h, app_set' rfl]
def mid (m : Nat) : Nat → Int
  | 0 => ct m
  | i + 1 => if m % (2 + i) = 0 then mid m i - cp (2 + i) * ct (m / (2 + i)) else mid m i
theorem mid_end : ∀ m < 41, 2 ≤ m → mid m (m - 2) = cp m := by decide +kernel
theorem dv_ok : ∀ n < 41, ∀ b < n, 2 ≤ b → n % b = 0 → 2 ≤ n / b ∧ n / b < n := by decide +kernel
theorem pg10 : Prog[10]? = some ⟨5, 2, d10⟩ := rfl
theorem ent10 {k c : Nat} {x : Int} {M : Store} : tabOf Prog (k + 1) 10 [.ref c, .int x] M = finS M (d10 (tabOf Prog k) [some (.ref c), some (.int x), none, none, none] M) := tab_at (F := ⟨5, 2, d10⟩) pg10 rfl
theorem emod_nat (a b : Nat) : ((2 + (a : Int)) % (2 + (b : Int))) = (((2 + a) % (2 + b) : Nat) : Int) := by simp
theorem many_primes_ok {k c : Nat} {M : Store} (h : M[c]? = some (.lst (csV.map D.int))) : tabOf Prog (k + 2) 10 [.ref c, .int 40] M = .ok (.ref M.length) (M ++ [.dicK (dicP 39)]) := by
  rw [ent10]
  have hmt : ∀ (S : Store) (n : Nat), S[c]? = some (.lst (csV.map D.int)) → 1 ≤ n → n ≤ 40 → tabOf Prog (k + 1) 9 [.ref c, .int n] S = .ok (.int (ct n)) S := fun S n a b d => many_tables_ok a b d
  generalize tabOf Prog (k + 1) = T at hmt ⊢
  obtain ⟨eta', M', hf, j3, j4, rfl, rfl⟩ := sfor_rg (it := itRange2 (lCons (eC (.int 2)) (lCons (eBin dAdd (eVar 1) (eC (.int 1))) (lNil)))) (t := .nm 3) (b := d10_b1 T) (eta := [some (.ref c), some (.int 40), some (.ref M.length), none, none]) (M := M ++ [.dicK []]) (lo := 2) (n := 39)
    (range2_ok (i := 2) (j := 41) rfl rfl (by decide)) (by omega) (fun i eta S => ∃ j3 j4, eta = [some (.ref c), some (.int 40), some (.ref M.length), j3, j4] ∧ S = M ++ [.dicK (dicP i)]) ⟨none, none, rfl, rfl⟩ (fun i eta S hi hI => by
      obtain ⟨j3, j4, rfl, rfl⟩ := hI
      have hc : ∀ kvs, (M ++ [.dicK kvs])[c]? = some (.lst (csV.map D.int)) := fun kvs => app_old h _
      have e1 : sSet (eVar 2) (eVar 3) (eCall T 9 (lCons (eVar 0) (lCons (eVar 3) (lNil)))) [some (.ref c), some (.int 40), some (.ref M.length), some (.int (2 + (i : Int))), j4] (M ++ [.dicK (dicP i)]) = .nx [some (.ref c), some (.int 40), some (.ref M.length), some (.int (2 + (i : Int))), j4] (M ++ [.dicK (dicP i ++ [(pk i, .int (mid (2 + i) 0))])]) := by
        have := hmt _ (2 + i) (hc (dicP i)) (by omega) (by omega)
        rw [show ((2 + i : Nat) : Int) = 2 + (i : Int) by omega] at this
        exact set_ok (callL_ok (l2_ok rfl rfl) this) rfl rfl ((setD_dic (by rw [dicP_len]; exact cap_big (by omega))).trans (by rw [putD_new]; rfl))
      obtain ⟨eta2, M2, hf2, j4', rfl, rfl⟩ := sfor_rg (it := itRange2 (lCons (eC (.int 2)) (lCons (eVar 3) (lNil)))) (t := .nm 4) (b := d10_b0 T) (eta := [some (.ref c), some (.int 40), some (.ref M.length), some (.int (2 + (i : Int))), j4]) (M := M ++ [.dicK (dicP i ++ [(pk i, .int (mid (2 + i) 0))])]) (lo := 2) (n := i)
        ((range2_ok rfl rfl (by omega)).trans (by rw [show (2 + (i : Int) - 2).toNat = i by omega])) (by omega) (fun j eta S => ∃ j4, eta = [some (.ref c), some (.int 40), some (.ref M.length), some (.int (2 + (i : Int))), j4] ∧ S = M ++ [.dicK (dicP i ++ [(pk i, .int (mid (2 + i) j))])]) ⟨j4, rfl, rfl⟩ (fun j eta S hj hI => by
          obtain ⟨j4, rfl, rfl⟩ := hI
          refine ⟨_, rfl, ?_⟩
          have ht : tOf (eBin (dEq false) (eBin dMod (eB bInt (lCons (eVar 3) (lNil))) (eVar 4)) (eC (.int 0))) [some (.ref c), some (.int 40), some (.ref M.length), some (.int (2 + (i : Int))), some (.int (2 + (j : Int)))] (M ++ [.dicK (dicP i ++ [(pk i, .int (mid (2 + i) j))])]) = .ok (decide ((2 + i) % (2 + j) = 0)) (M ++ [.dicK (dicP i ++ [(pk i, .int (mid (2 + i) j))])]) := by
            refine tOf_ok (bi_ok (bi_ok (x := .int (2 + (i : Int))) (y := .int (2 + (j : Int))) rfl rfl (dMod_ok (by omega))) rfl (dEq_int.trans ?_))
            rw [emod_nat]
            simp only [Bool.false_eq_true, if_false]
            congr 3
            exact propext (by omega)
          by_cases hd : (2 + i) % (2 + j) = 0
          · have hdv := dv_ok (2 + i) (by omega) (2 + j) (by omega) (by omega) hd
            have hm := hmt _ ((2 + i) / (2 + j)) (hc (dicP i ++ [(pk i, .int (mid (2 + i) j))])) (by omega) (by omega)
            have ex : (2 + (i : Int)) / (2 + (j : Int)) = (((2 + i) / (2 + j) : Nat) : Int) := by simp
            refine ⟨[some (.ref c), some (.int 40), some (.ref M.length), some (.int (2 + (i : Int))), some (.int (2 + (j : Int)))], M ++ [.dicK (dicP i ++ [(pk i, .int (mid (2 + i) (j + 1)))])], ?_, _, rfl, rfl⟩
            unfold d10_b0
            refine (if_yes (ht.trans (by rw [decide_eq_true hd]))).trans ?_
            refine set_ok (bi_ok (bi_ok (x := .ref M.length) (y := .int (2 + (i : Int))) rfl rfl (dIx_dic (d := .int (mid (2 + i) j)) (app_at _ _ _) (by
                have := findK_dicP i i
                rw [if_neg (by omega)] at this
                rw [findK_app, this]
                simp only [findK, if_true]))) (bi_ok (bi_ok (x := .ref M.length) (y := .int (2 + (j : Int))) rfl rfl (dIx_dic (d := .int (cp (2 + j))) (app_at _ _ _) (by
                have := findK_dicP j i
                rw [if_pos (by omega)] at this
                rw [findK_app, this]))) (callL_ok (l2_ok rfl (bi_ok (x := .int (2 + (i : Int))) (y := .int (2 + (j : Int))) rfl rfl ((dFdiv_ok (by omega) (by omega)).trans (by rw [ex])))) hm) (dMulA_ok (pl _ (by omega)) (tl _ (by omega)))) rfl) rfl rfl ((setD_dic (by simp [dicP_len]; exact cap_big (by omega))).trans (by
                rw [putD_old]
                simp only [mid, if_pos hd]))
          · refine ⟨[some (.ref c), some (.int 40), some (.ref M.length), some (.int (2 + (i : Int))), some (.int (2 + (j : Int)))], M ++ [.dicK (dicP i ++ [(pk i, .int (mid (2 + i) (j + 1)))])], ?_, _, rfl, rfl⟩
            unfold d10_b0
            refine (if_no (ht.trans (by rw [decide_eq_false hd]))).trans ?_
            simp only [mid, if_neg hd]
            rfl)
      refine ⟨_, rfl, [some (.ref c), some (.int 40), some (.ref M.length), some (.int (2 + (i : Int))), j4'], M ++ [.dicK (dicP (i + 1))], ?_, _, _, rfl, rfl⟩
      unfold d10_b1
      show sSeq _ _ [some (.ref c), some (.int 40), some (.ref M.length), some (.int (2 + (i : Int))), j4] _ = _
      have hme := mid_end (2 + i) (by omega) (by omega)
      rw [show 2 + i - 2 = i by omega] at hme
      rw [seq_nx e1, hf2, hme, ← dicP_succ])
  have e0 : eDicK [some (.ref c), some (.int 40), none, none, none] M = .ok (.ref M.length) (M ++ [.dicK []]) := rfl
  unfold d10
  rw [seq_nx (asg_ok e0)]
  show finS M (sSeq _ _ [some (.ref c), some (.int 40), some (.ref M.length), none, none] _) = _
  rw [seq_nx hf, ret_ok (f := eVar 2) (d := .ref M.length) rfl]
  refine gc_new (Nat.le_refl _) (app_at _ _ _) rfl ?_
  show lowL _ ((dicP 39).map (·.2)) = true
  have : (dicP 39).map (·.2) = ((List.range 39).map fun i => cp (2 + i)).map D.int := by unfold dicP; simp
  rw [this]
  exact lowL_ints _ _
end Ev

namespace Ev
open PySem L2
/-! ### _law_many_glued -/
theorem pg11 : Prog[11]? = some ⟨6, 4, d11⟩ := rfl
theorem ent11 {k c p : Nat} {x y : Int} {M : Store} : tabOf Prog (k + 1) 11 [.ref c, .ref p, .int x, .int y] M = finS M (d11 (tabOf Prog k) [some (.ref c), some (.ref p), some (.int x), some (.int y), none, none] M) := tab_at (F := ⟨6, 4, d11⟩) pg11 rfl
def gsum (n k i : Nat) : Int := ((List.range i).map fun j => if n % (2 + j) = 0 then cp (2 + j) * cg (n / (2 + j)) (k - 1) else 0).sum
theorem gs_end : ∀ n < 41, ∀ k < 7, 2 ≤ n → 2 ≤ k → gsum n k (n - 2) = cg n k := by decide +kernel
theorem gs_next (n k i : Nat) : gsum n k (i + 1) = gsum n k i + if n % (2 + i) = 0 then cp (2 + i) * cg (n / (2 + i)) (k - 1) else 0 := by
  unfold gsum
  rw [List.range_succ, List.map_append, List.sum_append]
  simp
theorem prim_at {M : Store} {p : Nat} (h : M[p]? = some (.dicK (dicP 39))) {b : Nat} (hb : b < 39) : dIx (.ref p) (.int (2 + (b : Int))) M = .ok (.int (cp (2 + b))) M :=
  dIx_dic h (by rw [findK_dicP, if_pos hb])
theorem emod_nat2 (a b : Nat) : ((a : Int) % (2 + (b : Int))) = ((a % (2 + b) : Nat) : Int) := by simp
theorem many_glued_ok : ∀ (f n : Nat), n ≤ f → 2 ≤ n → n ≤ 40 → ∀ (q : Nat), 1 ≤ q → q ≤ 6 → ∀ (k c p : Nat) (M : Store), M[p]? = some (.dicK (dicP 39)) → tabOf Prog (k + f + 1) 11 [.ref c, .ref p, .int n, .int q] M = .ok (.int (cg n q)) M
  | 0, n, h, h1, _, _, _, _, k, c, p, M, _ => by omega
  | f + 1, n, h, h1, h2, q, q1, q2, k, c, p, M, hp => by
    rw [show k + (f + 1) + 1 = (k + f + 1) + 1 by omega, ent11]
    have hrec := fun b p1 p2 p3 r p4 p5 => many_glued_ok f b p1 p2 p3 r p4 p5 k c p M hp
    generalize tabOf Prog (k + f + 1) = T at hrec ⊢
    have hpn : dIx (.ref p) (.int (n : Int)) M = .ok (.int (cp n)) M := by
      have := prim_at hp (b := n - 2) (by omega)
      rwa [show (2 + ((n - 2 : Nat) : Int)) = (n : Int) by omega, show 2 + (n - 2) = n by omega] at this
    unfold d11
    by_cases hq : q = 1
    · subst hq
      rw [seq_rt (d := .int (cp n)) (M' := M) (by
        rw [if_yes (M1 := M) (tOf_ok (bi_ok (x := .int 1) (y := .int 1) rfl rfl dEq_int))]
        exact ret_ok (bi_ok (x := .ref p) (y := .int (n : Int)) rfl rfl hpn)), ← cg_one n (by omega) h1]
      exact fin_int0
    · rw [seq_nx (eta' := [some (.ref c), some (.ref p), some (.int n), some (.int q), none, none]) (M' := M) (by
        rw [if_no (M1 := M) (tOf_ok (bi_ok (x := .int q) (y := .int 1) rfl rfl (dEq_int.trans (by simp; omega))))]
        rfl)]
      obtain ⟨eta', M', hf, j, rfl, hM⟩ := sfor_rg (it := itRange2 (lCons (eC (.int 2)) (lCons (eVar 2) (lNil)))) (t := .nm 5) (b := d11_b0 T) (eta := [some (.ref c), some (.ref p), some (.int n), some (.int q), some (.int 0), none]) (M := M) (lo := 2) (n := n - 2)
        ((range2_ok (i := 2) (j := n) rfl rfl (by omega)).trans (by rw [show ((n : Int) - 2).toNat = n - 2 by omega])) (by omega) (fun i eta S => ∃ j, eta = [some (.ref c), some (.ref p), some (.int n), some (.int q), some (.int (gsum n q i)), j] ∧ S = M) ⟨none, rfl, rfl⟩ (fun i eta S hi hI => by
          obtain ⟨j, rfl, hS⟩ := hI
          rw [hS]
          refine ⟨_, rfl, ?_⟩
          have ht : tOf (eBin (dEq false) (eBin dMod (eB bInt (lCons (eVar 2) (lNil))) (eVar 5)) (eC (.int 0))) [some (.ref c), some (.ref p), some (.int n), some (.int q), some (.int (gsum n q i)), some (.int (2 + (i : Int)))] M = .ok (decide (n % (2 + i) = 0)) M := by
            refine tOf_ok (bi_ok (bi_ok (x := .int (n : Int)) (y := .int (2 + (i : Int))) rfl rfl (dMod_ok (by omega))) rfl (dEq_int.trans ?_))
            rw [emod_nat2]
            simp only [Bool.false_eq_true, if_false]
            congr 3
            exact propext (by omega)
          by_cases hd : n % (2 + i) = 0
          · have hdv := dv_ok n (by omega) (2 + i) (by omega) (by omega) hd
            have ex : (n : Int) / (2 + (i : Int)) = ((n / (2 + i) : Nat) : Int) := by simp
            have eq : (q : Int) - 1 = ((q - 1 : Nat) : Int) := by omega
            refine ⟨[some (.ref c), some (.ref p), some (.int n), some (.int q), some (.int (gsum n q (i + 1))), some (.int (2 + (i : Int)))], M, ?_, _, rfl, rfl⟩
            unfold d11_b0
            refine (if_yes (ht.trans (by rw [decide_eq_true hd]))).trans ?_
            refine (asg_ok (d := .int (gsum n q (i + 1))) (bi_ok (x := .int (gsum n q i)) rfl (bi_ok (bi_ok (x := .ref p) (y := .int (2 + (i : Int))) rfl rfl (prim_at hp (by omega))) (callL_ok (lc_ok rfl (lc_ok rfl (l2_ok (bi_ok (x := .int (n : Int)) (y := .int (2 + (i : Int))) rfl rfl ((dFdiv_ok (by omega) (by omega)).trans (by rw [ex]))) (bi_ok (x := .int q) (y := .int 1) rfl rfl (by show Out.ok (D.int ((q : Int) - 1)) _ = _; rw [eq]))))) (hrec (n / (2 + i)) (by omega) (by omega) (by omega) (q - 1) (by omega) (by omega))) (dMulA_ok (pl _ (by omega)) (gl _ _ (by omega)))) ?_)).trans rfl
            rw [gs_next, if_pos hd]
            rfl
          · refine ⟨[some (.ref c), some (.ref p), some (.int n), some (.int q), some (.int (gsum n q (i + 1))), some (.int (2 + (i : Int)))], M, ?_, _, rfl, rfl⟩
            unfold d11_b0
            refine (if_no (ht.trans (by rw [decide_eq_false hd]))).trans ?_
            rw [gs_next, if_neg hd, Int.add_zero]
            rfl)
      rw [hM] at hf
      rw [seq_nx (asg_ok (f := eC (.int 0)) rfl)]
      show finS M (sSeq _ _ [some (.ref c), some (.ref p), some (.int n), some (.int q), some (.int 0), none] _) = _
      rw [seq_nx hf, ret_ok (f := eVar 4) rfl, gs_end n (by omega) q (by omega) h1 (by omega)]
      exact fin_int0
/-! ### _law_mixed -/
theorem pg6 : Prog[6]? = some ⟨4, 2, d6⟩ := rfl
theorem pg7 : Prog[7]? = some ⟨4, 2, d7⟩ := rfl
theorem ent7 {k s c : Nat} {M : Store} : tabOf Prog (k + 1) 7 [.ref s, .ref c] M = finS M (d7 (tabOf Prog k) [some (.ref s), some (.ref c), none, none] M) := tab_at (F := ⟨4, 2, d7⟩) pg7 rfl
theorem pick6 {k s c : Nat} {M : Store} {many : Int} (h : Src M s c) (h1 : 1 ≤ many) (h2 : many < 2 ^ 60) : ∃ r M', tabOf Prog (k + 1) 6 [.ref s, .int many] M = .ok (.int r) M' ∧ 0 ≤ r ∧ r < many ∧ Src M' s c ∧ But s c M M' :=
  pick_ok pg6 rfl rfl rfl h h1 h2
theorem srcO_low {c k : Nat} {l m t : Int} (h : c < k) : (srcO c l m t).low k = true := by simp [srcO, MO.low, lowL, D.low, h]
/-- the source was drawn on, new things were laid: kept -/
theorem kept_but {M M' N : Store} {s c : Nat} (h : Src M' s c) (b : But s c M M') : keptOk M.length M (M' ++ N) = true := by
  have aux : ∀ (k : Nat) (A B N : Store), keptOk k A B = true → keptOk k A (B ++ N) = true := fun k => by
    intro A
    induction A with
    | nil => intro B N _; rfl
    | cons m A ih =>
      intro B N h
      cases B with
      | nil => simp [keptOk] at h
      | cons o B =>
        simp only [keptOk, Bool.and_eq_true, List.cons_append] at h ⊢
        exact ⟨h.1, ih B N h.2⟩
  refine aux _ _ _ _ (keptOk_of b.len fun j m o e1 e2 => ?_)
  obtain ⟨cs, l, mm, t, a1, a2, _⟩ := h.at_
  have hlt := h.lt
  rw [b.len] at hlt
  by_cases hj : j = s
  · subst hj
    rw [a1] at e2; cases e2
    exact .inr (srcO_low hlt.2)
  · by_cases hj2 : j = c
    · subst hj2
      rw [a2] at e2; cases e2
      exact .inr (lowL_ints _ _)
    · rw [b.at_ j hj hj2, e1] at e2
      exact .inl (Option.some.inj e2).symm
theorem eraseIdx_mapD : ∀ (R : List Int) (k : Nat), (R.map D.int).eraseIdx k = (R.eraseIdx k).map D.int
  | [], _ => rfl
  | _ :: _, 0 => rfl
  | x :: R, k + 1 => by
    show D.int x :: (R.map D.int).eraseIdx k = D.int x :: (R.eraseIdx k).map D.int
    rw [eraseIdx_mapD R k]
theorem mixed_ok {k s c t : Nat} {M : Store} {L : List Int} (h : Src M s c) (ht : M[t]? = some (.lst (L.map D.int))) (hL : L.length ≤ 999) :
    ∃ (M' : Store) (L' : List Int), tabOf Prog (k + 2) 7 [.ref s, .ref t] M = .ok (.ref M'.length) (M' ++ [.lst (L'.map D.int)]) ∧ (∀ x ∈ L', x ∈ L) ∧ Src M' s c ∧ But s c M M' ∧ L'.length = L.length := by
  rw [ent7]
  have hpk : ∀ (S : Store) (many : Int), Src S s c → 1 ≤ many → many < 2 ^ 60 → ∃ r M', tabOf Prog (k + 1) 6 [.ref s, .int many] S = .ok (.int r) M' ∧ 0 ≤ r ∧ r < many ∧ Src M' s c ∧ But s c S M' := fun S many a b d => pick6 a b d
  generalize tabOf Prog (k + 1) = T at hpk ⊢
  have hslt := h.lt
  -- the comprehension
  have key : ∃ Mf, lcLoop (itRg 0 L.length) (.nm 3) [3] tYesE (d7_e0 T) [some (.ref s), some (.ref t), some (.ref M.length), none] (M.length + 1) FUEL 0 ((M ++ [.lst (L.map D.int)]) ++ .lst [] :: []) = .ok (.ref (M.length + 1)) Mf ∧ ∃ (M' : Store) (L' : List Int), (∀ x ∈ L', x ∈ L) ∧ Src M' s c ∧ But s c M M' ∧ L'.length = L.length ∧ ∃ R N, Mf = (M' ++ [.lst R]) ++ .lst (L'.map D.int) :: N := by
    refine lc_rule (R := fun Mf => ∃ (M' : Store) (L' : List Int), (∀ x ∈ L', x ∈ L) ∧ Src M' s c ∧ But s c M M' ∧ L'.length = L.length ∧ ∃ R N, Mf = (M' ++ [.lst R]) ++ .lst (L'.map D.int) :: N) L.length
      (fun i P acc N => i ≤ L.length ∧ ∃ (M' : Store) (R L' : List Int), P = M' ++ [.lst (R.map D.int)] ∧ acc = L'.map D.int ∧ L'.length = i ∧ R.length = L.length - i ∧ (∀ x ∈ R, x ∈ L) ∧ (∀ x ∈ L', x ∈ L) ∧ Src M' s c ∧ But s c M M')
      (fun i P acc N ⟨hi, M', R, L', e1, e2, e3, _, _, _, _, b⟩ => by
        subst e1; subst e2
        exact ⟨by simp [b.len], by rw [List.length_map]; exact cap_big (by omega)⟩)
      (fun P acc N ⟨hi, M', R, L', e1, e2, e3, _, _, hm, hs, b⟩ => by
        subst e1; subst e2
        exact ⟨by simp [itRg], M', L', hm, hs, b, e3, _, _, rfl⟩)
      (fun i P acc N hi ⟨_, M', R, L', e1, e2, e3, e4, hR, hm, hs, b⟩ => ?_) FUEL 0 _ [] [] (by have := fuel_big (show L.length ≤ 1000 by omega); omega) (Nat.zero_le _) ⟨Nat.zero_le _, M, L, [], rfl, rfl, rfl, rfl, fun x hx => hx, fun x hx => by simp at hx, h, But.refl _⟩
    subst e1; subst e2
    have hbl : bLen [.ref M.length] ((M' ++ [.lst (R.map D.int)]) ++ .lst (L'.map D.int) :: N) = .ok (.int (R.length : Nat)) ((M' ++ [.lst (R.map D.int)]) ++ .lst (L'.map D.int) :: N) := by
      have : ((M' ++ [.lst (R.map D.int)]) ++ .lst (L'.map D.int) :: N)[M.length]? = some (.lst (R.map D.int)) := app_old (app_at' b.len _ _) _
      simp only [bLen, this, List.length_map]
    have e60 : (2 : Int) ^ 60 = 1152921504606846976 := by decide
    obtain ⟨r, S', p1, p2, p3, p4, p5⟩ := hpk ((M' ++ [.lst (R.map D.int)]) ++ .lst (L'.map D.int) :: N) (R.length : Nat) ((hs.app _).app _) (by omega) (by omega)
    obtain ⟨P', rfl, b2, l2⟩ := p5.split (by have := hs.lt; simp; omega) (by have := hs.lt; simp; omega)
    obtain ⟨M'', rfl, b3, l3⟩ := b2.split hs.lt.1 hs.lt.2
    have hs2 : Src M'' s c := (p4.of_app (by have := hs.lt; simp; omega) (by have := hs.lt; simp; omega)).of_app (by have := hs.lt; omega) (by have := hs.lt; omega)
    have bb := b.trans b3
    have hr : r.toNat < R.length := by omega
    refine ⟨.int (0 + (i : Int)), [some (.ref s), some (.ref t), some (.ref M.length), some (.int (0 + (i : Int)))], by simp only [itRg, if_pos hi], rfl, .inl ⟨rfl, .int R[r.toNat], M'' ++ [.lst ((R.eraseIdx r.toNat).map D.int)], N, ?_, by simp [bb.len], by omega, M'', R.eraseIdx r.toNat, L' ++ [R[r.toNat]], rfl, by simp, by simp [e3], by rw [List.length_eraseIdx]; simp [hr]; omega, fun x hx => hR x (List.mem_of_mem_eraseIdx hx), fun x hx => by
      rcases List.mem_append.mp hx with q | q
      · exact hm x q
      · rw [List.mem_singleton.mp q]
        exact hR _ (List.getElem_mem hr), hs2, bb⟩⟩
    have hat : ((M'' ++ [.lst (R.map D.int)]) ++ .lst (L'.map D.int) :: N)[M.length]? = some (.lst (R.map D.int)) := app_old (app_at' bb.len _ _) _
    have hpop : mPop (.ref M.length) [.int r] ((M'' ++ [.lst (R.map D.int)]) ++ .lst (L'.map D.int) :: N) = .ok (.int R[r.toNat]) ((M'' ++ [.lst ((R.eraseIdx r.toNat).map D.int)]) ++ .lst (L'.map D.int) :: N) := by
      have hsi : seqIndex? r (R.map D.int).length = some r.toNat := by
        unfold seqIndex?
        rw [List.length_map, if_neg (show ¬ r < 0 by omega)]
        simp only [Bool.and_eq_true, decide_eq_true_eq]
        rw [if_pos ⟨p2, p3⟩]
      have e63 : (2 : Int) ^ 63 = 9223372036854775808 := by decide
      simp only [mPop, hat, hsi, List.getElem?_map, List.getElem?_eq_getElem hr, Option.map_some]
      rw [if_pos (by omega), List.append_assoc, List.singleton_append, app_set' bb.len, List.append_assoc, List.singleton_append, eraseIdx_mapD]
    refine ml_ok (x := .ref M.length) rfl ?_ (l1_ok (callL_ok (l2_ok rfl (bL_ok (l1_ok rfl) hbl)) p1)) hpop
    have : ((M' ++ [.lst (R.map D.int)]) ++ .lst (L'.map D.int) :: N)[M.length]? = some (.lst (R.map D.int)) := app_old (app_at' b.len _ _) _
    simp only [isLst, this]
  obtain ⟨Mf, h1, M', L', hm, hs, b, hlen, R, N, rfl⟩ := key
  have e1 : eB bList (lCons (eVar 1) lNil) [some (.ref s), some (.ref t), none, none] M = .ok (.ref M.length) (M ++ [.lst (L.map D.int)]) := bL_ok (l1_ok rfl) (by simp only [bList, liveAt, ht])
  have hbl0 : bLen [.ref M.length] (M ++ [.lst (L.map D.int)]) = .ok (.int (L.length : Nat)) (M ++ [.lst (L.map D.int)]) := by simp only [bLen, app_at, List.length_map]
  have hit : itRange1 (lCons (eB bLen (lCons (eVar 2) (lNil))) (lNil)) [some (.ref s), some (.ref t), some (.ref M.length), none] (M ++ [.lst (L.map D.int)]) = .ok (itRg 0 L.length) (M ++ [.lst (L.map D.int)]) := (range1_ok (j := (L.length : Nat)) (bL_ok (l1_ok rfl) hbl0) (by omega)).trans (by rw [Int.toNat_natCast])
  have e2 : eLc (itRange1 (lCons (eB bLen (lCons (eVar 2) (lNil))) (lNil))) (.nm 3) [3] (tYesE) (d7_e0 T) [some (.ref s), some (.ref t), some (.ref M.length), none] (M ++ [.lst (L.map D.int)]) = .ok (.ref (M.length + 1)) ((M' ++ [.lst R]) ++ .lst (L'.map D.int) :: N) := by
    simp only [eLc, hit, Out.bind]
    rw [← h1]
    simp only [List.length_append, List.length_cons, List.length_nil]
  refine ⟨M', L', ?_, hm, hs, b, hlen⟩
  unfold d7
  rw [seq_nx (asg_ok e1)]
  show finS M (sRet _ [some (.ref s), some (.ref t), some (.ref M.length), none] _) = _
  rw [ret_ok e2]
  show gc M (.ref (M.length + 1)) _ = _
  unfold gc
  have hk := kept_but (N := .lst R :: .lst (L'.map D.int) :: N) hs b
  rw [show (M' ++ [MO.lst R]) ++ .lst (L'.map D.int) :: N = M' ++ .lst R :: .lst (L'.map D.int) :: N by simp]
  rw [if_pos hk, if_neg (by simp [D.low])]
  have hat : (M' ++ .lst R :: .lst (L'.map D.int) :: N)[M.length + 1]? = some (.lst (L'.map D.int)) := by
    have := app_at' (P := M' ++ [MO.lst R]) (n := M.length + 1) (by simp [b.len]) (.lst (L'.map D.int)) N
    rwa [List.append_assoc, List.singleton_append] at this
  simp only [hat, MO.low, lowL_ints, if_true]
  rw [← b.len, List.take_left]
end Ev

namespace Ev
open PySem L2
/-! ### lists of ints as data -/
theorem allBy_ints {f : D → Option PyData} (hf : ∀ i : Int, f (.int i) = some (.int i)) : ∀ L : List Int, allBy f (L.map D.int) = some (L.map PyData.int)
  | [] => rfl
  | x :: L => by simp only [List.map_cons, allBy, hf, allBy_ints hf L]
theorem toPy_int (M : Store) (k : Nat) (i : Int) : toPy M k (.int i) = some (.int i) := by cases k <;> simp only [toPy, pyD]
theorem toPy_ref {M : Store} {k n : Nat} {ds : List D} (h : M[n]? = some (.lst ds)) : toPy M (k + 1) (.ref n) = (allBy (toPy M k) ds).map .list := by
  rw [toPy]
  generalize toPy M k = f
  simp only [pyD, h]
theorem toPy_ints {M : Store} {n : Nat} {L : List Int} (h : M[n]? = some (.lst (L.map D.int))) : toPy M 6 (.ref n) = some (.list (L.map PyData.int)) := by
  rw [toPy_ref h, allBy_ints (toPy_int M 5)]
  rfl
theorem lay_ints : ∀ L : List Int, PyData.canLayAll0 (L.map PyData.int) = true
  | [] => rfl
  | x :: L => by simp only [List.map_cons, PyData.canLayAll0, PyData.canLay0, lay_ints L, Bool.and_self]
theorem dep_ints : ∀ L : List Int, PyData.depthAll (L.map PyData.int) ≤ 1
  | [] => by simp [PyData.depthAll]
  | x :: L => by
    have := dep_ints L
    simp only [List.map_cons, PyData.depthAll, PyData.depth]
    omega
theorem eqv_int (a b : Int) : PyData.eqv (.int a) (.int b) = decide (a = b) := by
  rw [PyData.eqv]
  by_cases q : a = b <;> simp [q]
theorem eqv_ints : ∀ L L' : List Int, PyData.eqvAll (L.map PyData.int) (L'.map PyData.int) = decide (L = L')
  | [], [] => by rw [List.map_nil, PyData.eqvAll]; simp
  | [], y :: L' => by rw [List.map_nil, List.map_cons, PyData.eqvAll]; simp
  | x :: L, [] => by rw [List.map_nil, List.map_cons, PyData.eqvAll]; simp
  | x :: L, y :: L' => by
    rw [List.map_cons, List.map_cons, PyData.eqvAll, eqv_int, eqv_ints L L']
    by_cases h1 : x = y <;> by_cases h2 : L = L' <;> simp [h1, h2]
theorem dEq_ints {M : Store} {a b : Nat} {neg : Bool} {L L' : List Int} (h1 : M[a]? = some (.lst (L.map D.int))) (h2 : M[b]? = some (.lst (L'.map D.int))) :
    dEq neg (.ref a) (.ref b) M = .ok (.bl (if neg then !decide (L = L') else decide (L = L'))) M := by
  have hd := dep_ints L
  simp only [dEq, toPy_ints h1, toPy_ints h2]
  rw [if_pos ⟨by rw [PyData.canLay0]; exact lay_ints L, by rw [PyData.canLay0]; exact lay_ints L', by simp only [PyData.depth]; omega⟩, PyData.eqv, eqv_ints]
/-- what repr asks of a list of ints -/
def rpOk (L : List Int) : Bool := (PyData.list (L.map PyData.int)).showable && !(PyData.list (L.map PyData.int)).hasDict && decide ((PyData.list (L.map PyData.int)).shown.length ≤ cap) && PyData.strOk (PyData.list (L.map PyData.int)).shown
theorem repr_ints {M : Store} {n : Nat} {L : List Int} (h : M[n]? = some (.lst (L.map D.int))) (hr : rpOk L = true) : bRepr [.ref n] M = .ok (.str (PyData.list (L.map PyData.int)).shown) M := by
  unfold rpOk at hr
  simp only [Bool.and_eq_true, Bool.not_eq_true', decide_eq_true_eq] at hr
  have hd := dep_ints L
  simp only [bRepr, toPy_ints h]
  rw [if_pos ⟨hr.1.1.1, hr.1.1.2, by simp only [PyData.depth]; omega, hr.1.2⟩]
/-! repr's text of a list of ints -/
def okS (x : Str) : Prop := ∀ c ∈ x.cps.toList, c < 1114112
theorem okS.app {a b : Str} (ha : okS a) (hb : okS b) : okS (a ++ b) := fun c hc => by
  rw [PyProof.Rows.cps_toList_append] at hc
  rcases List.mem_append.mp hc with h | h
  · exact ha c h
  · exact hb c h
theorem okS_int (i : Int) : okS (Str.ofString (toString i)) := fun c hc => by
  rcases Nat.lt_or_ge c 1114112 with h | h
  · exact h
  · exact absurd hc (PyProof.Rows.int_text_free' c ⟨by omega, .inr (by omega)⟩ i)
theorem okS_from : ∀ (ts : List Str) (k : Nat) (acc : Str), okS acc → (∀ t ∈ ts, okS t) → okS (textFrom k acc ts)
  | [], _, _, h, _ => h
  | t :: ts, k, acc, h, ht => by
    unfold textFrom
    refine okS_from ts (k + 1) _ ((h.app ?_).app (ht t (List.mem_cons_self ..))) fun u hu => ht u (List.mem_cons_of_mem _ hu)
    split
    · intro c hc
      have : c ∈ [44, 32] := by
        have e : (Str.ofString ", ").cps.toList = [44, 32] := by decide +kernel
        rw [← e]; exact hc
      simp at this
      omega
    · intro c hc
      have e : (Str.ofString "").cps.toList = [] := by decide +kernel
      have hc' : c ∈ (Str.ofString "").cps.toList := hc
      rw [e] at hc'
      exact absurd hc' (by simp)
theorem shownAll_ints : ∀ L : List Int, PyData.shownAll (L.map PyData.int) = L.map fun i => Str.ofString (toString i)
  | [] => by rw [List.map_nil, PyData.shownAll]; rfl
  | x :: L => by rw [List.map_cons, PyData.shownAll, shownAll_ints L, List.map_cons, PyData.shown]
theorem show_ints : ∀ L : List Int, (∀ x ∈ L, x.natAbs.log2 < 1920) → PyData.showableAll (L.map PyData.int) = true ∧ PyData.hasDictAll (L.map PyData.int) = false
  | [], _ => ⟨by rw [List.map_nil, PyData.showableAll], by rw [List.map_nil, PyData.hasDictAll]⟩
  | x :: L, h => by
    obtain ⟨h1, h2⟩ := show_ints L fun y hy => h y (List.mem_cons_of_mem _ hy)
    rw [List.map_cons, PyData.showableAll, PyData.hasDictAll, PyData.showable, PyData.hasDict, h1, h2]
    exact ⟨by simp [h x (List.mem_cons_self ..)], rfl⟩
theorem sum_len : ∀ L : List Int, (∀ x ∈ L, x.natAbs.log2 < 1920) → ((L.map fun i => Str.ofString (toString i)).map (·.length)).sum ≤ 1921 * L.length
  | [], _ => by simp
  | x :: L, h => by
    have h1 := sum_len L fun y hy => h y (List.mem_cons_of_mem _ hy)
    have h2 := PyProof.Rows.int_text_len_1921 (h x (List.mem_cons_self ..))
    simp only [List.map_cons, List.sum_cons, List.length_cons]
    omega
theorem rp_ints {L : List Int} (h : ∀ x ∈ L, x.natAbs.log2 < 1920) (hl : L.length ≤ 1000) : rpOk L = true := by
  obtain ⟨h1, h2⟩ := show_ints L h
  have h3 := sum_len L h
  have h4 := listText_len_le (L.map fun i => Str.ofString (toString i))
  rw [List.length_map] at h4
  unfold rpOk
  rw [PyData.showable, PyData.hasDict, h1, h2, PyData.shown, shownAll_ints]
  simp only [Bool.and_eq_true, Bool.not_false, decide_eq_true_eq, true_and]
  refine ⟨by unfold cap; omega, ?_⟩
  have hk : okS (listText (L.map fun i => Str.ofString (toString i))) := by
    unfold listText
    refine (okS_from _ 0 _ (fun c hc => ?_) fun t ht => ?_).app fun c hc => ?_
    · have e : (Str.ofString "[").cps.toList = [91] := by decide +kernel
      have : c ∈ [91] := by rw [← e]; exact hc
      simp at this; omega
    · obtain ⟨i, _, rfl⟩ := List.mem_map.mp ht
      exact okS_int i
    · have e : (Str.ofString "]").cps.toList = [93] := by decide +kernel
      have : c ∈ [93] := by rw [← e]; exact hc
      simp at this; omega
  unfold PyData.strOk
  rw [Array.all_eq_true']
  intro c hc
  exact decide_eq_true (hk c (by simpa using hc))
theorem dEq_str {M : Store} {z : Str} (h : PyData.strOk z = true) : dEq true (.str z) (.str z) M = .ok (.bl false) M := by
  have h2 : PyData.canLay0 (.str z) = true := by simp only [PyData.canLay0]; exact h
  simp only [dEq, toPy, pyD]
  rw [if_pos ⟨h2, h2, by simp [PyData.depth]⟩, PyData.eqv]
  simp

def told (n : Nat) : List Int := (List.range 6).map fun i => cg n (1 + i)
def facs (n : Nat) : List Int := ((List.range (n - 2)).filter fun i => n % (2 + i) == 0).map fun (i : Nat) => 2 + (i : Int)
theorem told_rp (n : Nat) (h : n < 41) (_ : 2 ≤ n) : rpOk (told n) = true := rp_ints (fun x hx => by
  obtain ⟨i, hi, rfl⟩ := List.mem_map.mp hx
  exact Nat.lt_trans (cg_small n h (1 + i) (by have := List.mem_range.mp hi; omega)) (by decide)) (by simp [told])
theorem told_sum : ∀ n < 41, 2 ≤ n → (told n).sum = ct n := by decide +kernel
theorem told_0 : ∀ n < 41, 2 ≤ n → (told n).getD 0 0 = cp n := by decide +kernel
theorem told_f : ∀ n < 41, 2 ≤ n → facs n = [] → (told n).drop 1 = [0, 0, 0, 0, 0] := by decide +kernel
theorem cg_zero (m : Nat) {q : Nat} (hq : 7 ≤ q) : cg m q = 0 := by
  unfold cg
  rw [if_neg (by omega), if_neg (by omega), if_neg (by omega), if_neg (by omega), if_neg (by omega), if_neg (by omega)]

structure Has (T : Tab) : Prop where
  g : ∀ (n q : Nat) (S : Store), 2 ≤ n → n ≤ 40 → 1 ≤ q → q ≤ 60 → T 4 [.int n, .int q] S = .ok (.int (cg n q)) S
  mg : ∀ (n q c p : Nat) (S : Store), 2 ≤ n → n ≤ 40 → 1 ≤ q → q ≤ 6 → S[p]? = some (.dicK (dicP 39)) → T 11 [.ref c, .ref p, .int n, .int q] S = .ok (.int (cg n q)) S
  t : ∀ (n : Nat) (S : Store), 1 ≤ n → n ≤ 40 → T 1 [.int n] S = .ok (.int (ct n)) S
  p : ∀ (n : Nat) (S : Store), 1 ≤ n → n ≤ 40 → T 3 [.int n] S = .ok (.int (cp n)) S
theorem has_ok (k : Nat) : Has (tabOf Prog (k + 60)) where
  g := fun n q S h1 h2 h3 h4 => by
    have := count_glued_ok 40 n h2 h1 h2 q h3 h4 (k + 16) S
    rwa [show k + 16 + 40 + 4 = k + 60 by omega] at this
  mg := fun n q c p S h1 h2 h3 h4 h5 => by
    have := many_glued_ok 40 n h2 h1 h2 q h3 h4 (k + 19) c p S h5
    rwa [show k + 19 + 40 + 1 = k + 60 by omega] at this
  t := fun n S h1 h2 => by
    have := count_tables_ok (k := k + 58) (M := S) (m := n) (by omega) (by omega)
    rwa [Int.toNat_natCast] at this
  p := fun n S h1 h2 => by
    have := count_primes_ok 40 n h2 h1 h2 (k + 17) S
    rwa [show k + 17 + 40 + 3 = k + 60 by omega] at this

abbrev eta59 (c p : Nat) (j4 j5 : Option D) : Env := [some (.ref 0), some (.ref 1), some (.ref c), some (.ref p), j4, j5, none, none, none, none, none]
theorem if_skip {c : EvT} {bd : EvS} {eta : Env} {M M1 : Store} (h : c eta M = .ok false M1) : sIf c bd sSkip eta M = .nx eta M1 := by rw [if_no h]; rfl
theorem turn_ok {T : Tab} (H : Has T) {c p n : Nat} {j5 : Option D} {S : Store} (hp : S[p]? = some (.dicK (dicP 39))) (h1 : 2 ≤ n) (h2 : n ≤ 40) :
    ∃ N, d12_b0 T (eta59 c p (some (.int n)) j5) S = .nx (eta59 c p (some (.int n)) (some (.ref S.length))) (S ++ N) := by
  have c1 : ∀ i : Nat, (1 : Int) + (i : Int) = ((1 + i : Nat) : Int) := fun i => by omega
  -- what is told
  have eA := lcI_rg (it := itRange2 (lCons (eC (.int 1)) (lCons (eC (.int 7)) (lNil)))) (lo := 1) (n := 6) (j := 9) (f := d12_e0 T) (eta := eta59 c p (some (.int n)) j5) (M := S) (fun i => cg n (1 + i)) (range2_ok (i := 1) (j := 7) rfl rfl (by decide)) (by decide)
    (fun i acc hi => callL_ok (l2_ok rfl rfl) (by rw [c1]; exact H.g n (1 + i) _ h1 h2 (by omega) (by omega)))
  obtain ⟨S1, hS1⟩ : ∃ S1, S1 = S ++ [MO.lst ((told n).map D.int)] := ⟨_, rfl⟩
  have a1 : S1[S.length]? = some (.lst ((told n).map D.int)) := by rw [hS1]; exact app_at _ _ _
  have p1 : S1[p]? = some (.dicK (dicP 39)) := by rw [hS1]; exact app_old hp _
  have eB1 := lcI_rg (it := itRange2 (lCons (eC (.int 1)) (lCons (eC (.int 7)) (lNil)))) (lo := 1) (n := 6) (j := 9) (f := d12_e1 T) (eta := eta59 c p (some (.int n)) (some (.ref S.length))) (M := S1) (fun i => cg n (1 + i)) (range2_ok (i := 1) (j := 7) rfl rfl (by decide)) (by decide)
    (fun i acc hi => callL_ok (lc_ok rfl (lc_ok rfl (l2_ok rfl rfl))) (by rw [c1]; exact H.mg n (1 + i) c p _ h1 h2 (by omega) (by omega) (app_old p1 _)))
  obtain ⟨S2, hS2⟩ : ∃ S2, S2 = S1 ++ [MO.lst ((told n).map D.int)] := ⟨_, rfl⟩
  have a2 : S2[S.length]? = some (.lst ((told n).map D.int)) := by rw [hS2]; exact app_old a1 _
  have b2 : S2[S1.length]? = some (.lst ((told n).map D.int)) := by rw [hS2]; exact app_at _ _ _
  have hrp := told_rp n (by omega) h1
  have hso : PyData.strOk (PyData.list ((told n).map PyData.int)).shown = true := by
    unfold rpOk at hrp
    simp only [Bool.and_eq_true] at hrp
    exact hrp.2
  have tB : tOf (eBin (dEq true) (eB bRepr (lCons (eVar 5) (lNil))) (eB bRepr (lCons (eLc (itRange2 (lCons (eC (.int 1)) (lCons (eC (.int 7)) (lNil)))) (.nm 9) [9] (tYesE) (d12_e1 T)) (lNil)))) (eta59 c p (some (.int n)) (some (.ref S.length))) S1 = .ok false S2 := by
    refine tOf_ok (bi_ok (bL_ok (l1_ok rfl) (repr_ints a1 hrp)) (bL_ok (l1_ok eB1) ?_) (dEq_str hso))
    exact (congrArg (bRepr [.ref S1.length]) hS2.symm).trans (repr_ints b2 hrp)
  -- sums, the first one
  have tC : tOrr (tOf (eBin (dEq true) (eB bSum (lCons (eVar 5) (lNil))) (eCall T 1 (lCons (eVar 4) (lNil))))) (tOf (eBin (dEq true) (eBin dIx (eVar 5) (eC (.int 0))) (eCall T 3 (lCons (eVar 4) (lNil))))) (eta59 c p (some (.int n)) (some (.ref S.length))) S2 = .ok false S2 := by
    have hi := dIx_lst a2 (i := 0) (by decide) (by simp [told])
    rw [show (0 : Int).toNat = 0 by rfl, told_0 n (by omega) h1] at hi
    refine tOrr_no (tOf_ok (bi_ok (bL_ok (l1_ok rfl) ((bSum_at a2).trans (by rw [told_sum n (by omega) h1]))) (callL_ok (l1_ok rfl) (H.t n S2 (by omega) h2)) (dEq_int.trans (by simp)))) (tOf_ok (bi_ok (bi_ok (x := .ref S.length) (y := .int 0) rfl rfl hi) (callL_ok (l1_ok rfl) (H.p n S2 (by omega) h2)) (dEq_int.trans (by simp))))
  -- greater numbers of primes
  obtain ⟨S3, hS3⟩ : ∃ S3, S3 = S2 ++ [MO.lst ([7, 30, 60].map D.int)] := ⟨_, rfl⟩
  have b3 : S3[S2.length]? = some (.lst ([7, 30, 60].map D.int)) := by rw [hS3]; exact app_at _ _ _
  have a3 : S3[S.length]? = some (.lst ((told n).map D.int)) := by rw [hS3]; exact app_old a2 _
  have eL3 : eLst (lCons (eC (.int 7)) (lCons (eC (.int 30)) (lCons (eC (.int 60)) (lNil)))) (eta59 c p (some (.int n)) (some (.ref S.length))) S2 = .ok (.ref S2.length) S3 := (lst_ok (lc_ok rfl (l2_ok rfl rfl)) (by unfold cap; decide)).trans (by rw [hS3]; rfl)
  have eD := lcI_ints (e := eLst (lCons (eC (.int 7)) (lCons (eC (.int 30)) (lCons (eC (.int 60)) (lNil))))) (j := 9) (f := d12_e2 T) (eta := eta59 c p (some (.int n)) (some (.ref S.length))) (M := S2) [7, 30, 60] (fun _ => 0) eL3 b3 (by decide)
    (fun x acc hx => by
      have : ∃ q : Nat, x = (q : Int) ∧ 7 ≤ q ∧ q ≤ 60 := by
        simp at hx
        rcases hx with rfl | rfl | rfl
        · exact ⟨7, rfl, by decide, by decide⟩
        · exact ⟨30, rfl, by decide, by decide⟩
        · exact ⟨60, rfl, by decide, by decide⟩
      obtain ⟨q, rfl, q1, q2⟩ := this
      exact callL_ok (l2_ok rfl rfl) ((H.g n q _ h1 h2 (by omega) q2).trans (by rw [cg_zero n q1])))
  obtain ⟨S4, hS4⟩ : ∃ S4, S4 = S3 ++ [MO.lst ((([7, 30, 60] : List Int).map fun _ => (0 : Int)).map D.int)] := ⟨_, rfl⟩
  obtain ⟨S5, hS5⟩ : ∃ S5, S5 = S4 ++ [MO.lst (([0, 0, 0] : List Int).map D.int)] := ⟨_, rfl⟩
  have a5 : S5[S.length]? = some (.lst ((told n).map D.int)) := by rw [hS5, hS4]; exact app_old (app_old a3 _) _
  have tD : tOf (eBin (dEq true) (eLc (itE (eLst (lCons (eC (.int 7)) (lCons (eC (.int 30)) (lCons (eC (.int 60)) (lNil)))))) (.nm 9) [9] (tYesE) (d12_e2 T)) (eLst (lCons (eC (.int 0)) (lCons (eC (.int 0)) (lCons (eC (.int 0)) (lNil)))))) (eta59 c p (some (.int n)) (some (.ref S.length))) S2 = .ok false S5 := by
    refine tOf_ok (bi_ok (x := .ref S3.length) (M1 := S4) (M2 := S5) (y := .ref S4.length) (eD.trans (by rw [hS4])) ?_ ?_)
    · rw [hS5]
      exact lst_ok (lc_ok rfl (l2_ok rfl rfl)) (by unfold cap; decide)
    · refine (dEq_ints (L := ([7, 30, 60] : List Int).map fun _ => (0 : Int)) (L' := [0, 0, 0]) ?_ ?_).trans rfl
      · rw [hS5]; refine app_old ?_ _; rw [hS4]; exact app_at _ _ _
      · rw [hS5]; exact app_at _ _ _
  -- primes as sizes
  have eE := lcI_rgf (it := itRange2 (lCons (eC (.int 2)) (lCons (eVar 4) (lNil)))) (lo := 2) (n := n - 2) (j := 10) (c := d12_q0 T) (f := d12_e3 T) (eta := eta59 c p (some (.int n)) (some (.ref S.length))) (M := S5) (fun i => n % (2 + i) == 0) (fun i => 2 + (i : Int))
    ((range2_ok (i := 2) (j := n) rfl rfl (by omega)).trans (by rw [show ((n : Int) - 2).toNat = n - 2 by omega])) (by omega) (fun i acc hi => ⟨by
      refine tOf_ok (bi_ok (bi_ok (x := .int (n : Int)) (y := .int (2 + (i : Int))) rfl rfl (dMod_ok (by omega))) rfl (dEq_int.trans ?_))
      rw [emod_nat2]
      simp only [Bool.false_eq_true, if_false]
      congr 2
      rw [Bool.eq_iff_iff]
      simp only [beq_iff_eq, decide_eq_true_eq]
      omega, fun _ => rfl⟩)
  obtain ⟨S6, hS6⟩ : ∃ S6, S6 = S5 ++ [MO.lst ((facs n).map D.int)] := ⟨_, rfl⟩
  obtain ⟨S7, hS7⟩ : ∃ S7, S7 = S6 ++ [MO.lst (([] : List Int).map D.int)] := ⟨_, rfl⟩
  have a7 : S7[S.length]? = some (.lst ((told n).map D.int)) := by rw [hS7, hS6]; exact app_old (app_old a5 _) _
  have tE1 : tOf (eBin (dEq false) (eLc (itRange2 (lCons (eC (.int 2)) (lCons (eVar 4) (lNil)))) (.nm 10) [10] (d12_q0 T) (d12_e3 T)) (eLst (lNil))) (eta59 c p (some (.int n)) (some (.ref S.length))) S5 = .ok (decide (facs n = [])) S7 := by
    refine tOf_ok (bi_ok (M2 := S7) (y := .ref S6.length) eE ?_ ?_)
    · rw [show S5 ++ [MO.lst ((((List.range (n - 2)).filter fun i => n % (2 + i) == 0).map fun (i : Nat) => 2 + (i : Int)).map D.int)] = S6 from hS6.symm, hS7]
      exact lst_ok rfl (by unfold cap; decide)
    · refine (dEq_ints (L := facs n) (L' := []) ?_ ?_).trans rfl
      · rw [hS7]; refine app_old ?_ _; rw [hS6]; exact app_at _ _ _
      · rw [hS7]; exact app_at _ _ _
  have tE : ∃ N, tAn (tOf (eBin (dEq false) (eLc (itRange2 (lCons (eC (.int 2)) (lCons (eVar 4) (lNil)))) (.nm 10) [10] (d12_q0 T) (d12_e3 T)) (eLst (lNil)))) (tOf (eBin (dEq true) (eCut (eVar 5) (oSome (eC (.int 1))) oNone) (eBin dMulA (eLst (lCons (eC (.int 0)) (lNil))) (eC (.int 5))))) (eta59 c p (some (.int n)) (some (.ref S.length))) S5 = .ok false (S7 ++ N) := by
    by_cases hf : facs n = []
    · rw [decide_eq_true hf] at tE1
      have hcut : cutD ((told n).map D.int) (some 1) none = (([0, 0, 0, 0, 0] : List Int).map D.int) := by
        rw [← told_f n (by omega) h1 hf]
        rfl
      obtain ⟨S8, hS8⟩ : ∃ S8, S8 = S7 ++ [MO.lst (([0, 0, 0, 0, 0] : List Int).map D.int)] := ⟨_, rfl⟩
      obtain ⟨S9, hS9⟩ : ∃ S9, S9 = S8 ++ [MO.lst (([0] : List Int).map D.int)] := ⟨_, rfl⟩
      obtain ⟨Sz, hSz⟩ : ∃ Sz, Sz = S9 ++ [MO.lst (([0, 0, 0, 0, 0] : List Int).map D.int)] := ⟨_, rfl⟩
      have b8 : S8[S7.length]? = some (.lst (([0, 0, 0, 0, 0] : List Int).map D.int)) := by rw [hS8]; exact app_at _ _ _
      have b9 : S9[S8.length]? = some (.lst (([0] : List Int).map D.int)) := by rw [hS9]; exact app_at _ _ _
      have bz : Sz[S9.length]? = some (.lst (([0, 0, 0, 0, 0] : List Int).map D.int)) := by rw [hSz]; exact app_at _ _ _
      have bz7 : Sz[S7.length]? = some (.lst (([0, 0, 0, 0, 0] : List Int).map D.int)) := by rw [hSz, hS9]; exact app_old (app_old b8 _) _
      have e8 : eCut (eVar 5) (oSome (eC (.int 1))) oNone (eta59 c p (some (.int n)) (some (.ref S.length))) S7 = .ok (.ref S7.length) S8 := by
        show (dCut (.ref S.length) (some 1) none S7) = _
        simp only [dCut, a7, hcut]
        rw [hS8]
      have e9 : eLst (lCons (eC (.int 0)) (lNil)) (eta59 c p (some (.int n)) (some (.ref S.length))) S8 = .ok (.ref S8.length) S9 := by
        rw [hS9]
        exact lst_ok (l1_ok (f := eC (.int 0)) rfl) (by unfold cap; decide)
      have ez : dMulA (.ref S8.length) (.int 5) S9 = .ok (.ref S9.length) Sz := by
        simp only [dMulA, dMul, b9]
        rw [if_pos (by unfold cap; decide), hSz]
        rfl
      have hN : ∃ N, Sz = S7 ++ N := ⟨_, by rw [hSz, hS9, hS8]; simp only [List.append_assoc]; rfl⟩
      obtain ⟨N, hN⟩ := hN
      refine ⟨N, tAn_ok tE1 ?_⟩
      rw [← hN]
      exact tOf_ok (bi_ok e8 (bi_ok (y := .int 5) e9 rfl ez) ((dEq_ints (L := [0, 0, 0, 0, 0]) (L' := [0, 0, 0, 0, 0]) bz7 bz).trans rfl))
    · rw [decide_eq_false hf] at tE1
      exact ⟨[], by rw [List.append_nil]; exact tAn_no tE1⟩
  obtain ⟨N, tE⟩ := tE
  have hS7' : ∃ N', S7 ++ N = S ++ N' := ⟨_, by rw [hS7, hS6, hS5, hS4, hS3, hS2, hS1]; simp only [List.append_assoc]; rfl⟩
  obtain ⟨N', hN'⟩ := hS7'
  refine ⟨N', ?_⟩
  unfold d12_b0
  rw [seq_nx (asg_ok eA)]
  show sSeq _ _ (eta59 c p (some (.int n)) (some (.ref S.length))) (S ++ [MO.lst ((told n).map D.int)]) = _
  rw [← hS1, seq_nx (if_skip tB), seq_nx (if_skip tC), seq_nx (if_skip tD), if_skip tE, hN']
end Ev

namespace Ev
open PySem L2
theorem pg5 : Prog[5]? = some ⟨3, 1, d5⟩ := rfl
theorem pg12 : Prog[12]? = some ⟨11, 1, d12⟩ := rfl
theorem ent12 {k : Nat} {M : Store} : tabOf Prog (k + 1) 12 [.ref 0] M = finS M (d12 (tabOf Prog k) [some (.ref 0), none, none, none, none, none, none, none, none, none, none] M) := tab_at (F := ⟨11, 1, d12⟩) pg12 rfl
theorem fin_bl (M0 M : Store) (b : Bool) : ∃ M', finS M0 (.rt (.bl b) M) = .ok (.bl b) M' := by
  show ∃ M', gc M0 (.bl b) M = .ok (.bl b) M'
  unfold gc
  split
  · exact ⟨_, rfl⟩
  · exact ⟨_, rfl⟩
theorem pair_ok {T : Tab} (H : Has T) {a b : Nat} {x0 x1 x2 x3 x4 x5 x8 : Option D} {S : Store} (ha : 2 ≤ a ∧ a ≤ 40) (hb : 2 ≤ b ∧ b ≤ 40) (hab : 2 ≤ a * b ∧ a * b ≤ 40) (hc : cg (a * b) 2 = cp a * cp b * 2) :
    d12_b1 T [x0, x1, x2, x3, x4, x5, some (.int a), some (.int b), x8, none, none] S = .nx [x0, x1, x2, x3, x4, x5, some (.int a), some (.int b), some (.int (cp a * cp b * 2)), none, none] S := by
  unfold d12_b1
  have e1 : eBin dMulA (eBin dMulA (eCall T 3 (lCons (eVar 6) (lNil))) (eCall T 3 (lCons (eVar 7) (lNil)))) (eC (.int 2)) [x0, x1, x2, x3, x4, x5, some (.int a), some (.int b), x8, none, none] S = .ok (.int (cp a * cp b * 2)) S :=
    bi_ok (y := .int 2) (bi_ok (callL_ok (l1_ok rfl) (H.p a S (by omega) ha.2)) (callL_ok (l1_ok rfl) (H.p b S (by omega) hb.2)) (dMulA_ok (pl _ (by omega)) (pl _ (by omega)))) rfl (dMulA_r (by decide))
  rw [seq_nx (asg_ok e1)]
  show sIf _ _ sSkip [x0, x1, x2, x3, x4, x5, some (.int a), some (.int b), some (.int (cp a * cp b * 2)), none, none] S = _
  have hm : dMulA (.int (a : Int)) (.int (b : Int)) S = .ok (.int ((a * b : Nat) : Int)) S := (dMulA_r (by
    have : (2 : Int) ^ 64 = 18446744073709551616 := by decide
    omega)).trans (by rw [Int.natCast_mul])
  refine if_skip (tOf_ok (bi_ok (y := .int (cp a * cp b * 2)) (callL_ok (l2_ok (bi_ok (x := .int (a : Int)) (y := .int (b : Int)) rfl rfl hm) rfl) (H.g (a * b) 2 S hab.1 hab.2 (by decide) (by decide))) rfl (dEq_int.trans ?_)))
  rw [hc]
  simp
theorem cut_ints (L : List Int) (lo hi : Option Int) : ∃ L' : List Int, cutD (L.map D.int) lo hi = L'.map D.int ∧ (∀ x ∈ L', x ∈ L) ∧ L'.length ≤ L.length := by
  refine ⟨(L.drop (HT.sIx (L.map D.int).length 0 lo)).take (HT.sIx (L.map D.int).length (L.map D.int).length hi - HT.sIx (L.map D.int).length 0 lo), ?_, fun x hx => ?_, ?_⟩
  · unfold cutD
    rw [List.map_take, List.map_drop]
  · exact List.mem_of_mem_drop (List.mem_of_mem_take hx)
  · rw [List.length_take, List.length_drop]; omega
theorem last_ok {T : Tab} (H : Has T) {x0 x1 x2 x3 x4 x5 x6 x7 x8 : Option D} {S : Store} : ∃ S', sRet (eAn (eBin (dEq false) (eLc (itE (eLst (lCons (eC (.int 2)) (lCons (eC (.int 3)) (lCons (eC (.int 4)) (lNil)))))) (.nm 9) [9] (tYesE) (d12_e4 T)) (eLst (lCons (eC (.int 18)) (lCons (eC (.int 1)) (lCons (eC (.int 0)) (lNil)))))) (eBin (dEq false) (eCall T 4 (lCons (eC (.int 4)) (lCons (eC (.int 2)) (lNil)))) (eC (.int 1)))) [x0, x1, x2, x3, x4, x5, x6, x7, x8, none, none] S = .rt (.bl true) S' := by
  obtain ⟨S1, hS1⟩ : ∃ S1, S1 = S ++ [MO.lst (([2, 3, 4] : List Int).map D.int)] := ⟨_, rfl⟩
  have b1 : S1[S.length]? = some (.lst (([2, 3, 4] : List Int).map D.int)) := by rw [hS1]; exact app_at _ _ _
  have e1 : eLst (lCons (eC (.int 2)) (lCons (eC (.int 3)) (lCons (eC (.int 4)) (lNil)))) [x0, x1, x2, x3, x4, x5, x6, x7, x8, none, none] S = .ok (.ref S.length) S1 := by
    rw [hS1]
    exact lst_ok (lc_ok rfl (l2_ok rfl rfl)) (by unfold cap; decide)
  have lc := lcI_ints (e := eLst (lCons (eC (.int 2)) (lCons (eC (.int 3)) (lCons (eC (.int 4)) (lNil))))) (j := 9) (f := d12_e4 T) (eta := [x0, x1, x2, x3, x4, x5, x6, x7, x8, none, none]) (M := S) [2, 3, 4] (fun x => cg 8 x.toNat) e1 b1 (by decide)
    (fun x acc hx => by
      have : ∃ q : Nat, x = (q : Int) ∧ 1 ≤ q ∧ q ≤ 60 := by
        simp at hx
        rcases hx with rfl | rfl | rfl
        · exact ⟨2, rfl, by decide, by decide⟩
        · exact ⟨3, rfl, by decide, by decide⟩
        · exact ⟨4, rfl, by decide, by decide⟩
      obtain ⟨q, rfl, q1, q2⟩ := this
      exact callL_ok (l2_ok (f := eC (.int 8)) rfl rfl) (H.g 8 q _ (by decide) (by decide) q1 q2))
  obtain ⟨S2, hS2⟩ : ∃ S2, S2 = S1 ++ [MO.lst ((([2, 3, 4] : List Int).map fun x => cg 8 x.toNat).map D.int)] := ⟨_, rfl⟩
  obtain ⟨S3, hS3⟩ : ∃ S3, S3 = S2 ++ [MO.lst (([18, 1, 0] : List Int).map D.int)] := ⟨_, rfl⟩
  have b2 : S3[S1.length]? = some (.lst ((([2, 3, 4] : List Int).map fun x => cg 8 x.toNat).map D.int)) := by
    rw [hS3]; refine app_old ?_ _; rw [hS2]; exact app_at _ _ _
  have b3 : S3[S2.length]? = some (.lst (([18, 1, 0] : List Int).map D.int)) := by rw [hS3]; exact app_at _ _ _
  have e3 : eLst (lCons (eC (.int 18)) (lCons (eC (.int 1)) (lCons (eC (.int 0)) (lNil)))) [x0, x1, x2, x3, x4, x5, x6, x7, x8, none, none] S2 = .ok (.ref S2.length) S3 := by
    rw [hS3]
    exact lst_ok (lc_ok rfl (l2_ok rfl rfl)) (by unfold cap; decide)
  have hv : (([2, 3, 4] : List Int).map fun x => cg 8 x.toNat) = [18, 1, 0] := by decide +kernel
  have h42 : cg 4 2 = 1 := by decide +kernel
  have q1 : dEq false (.ref S1.length) (.ref S2.length) S3 = .ok (.bl true) S3 := (dEq_ints b2 b3).trans (by rw [hv]; rfl)
  refine ⟨S3, ret_ok (an_ok (bi_ok (x := .ref S1.length) (M1 := S2) (lc.trans (by rw [hS2])) e3 q1) (bi_ok (y := .int 1) (callL_ok (l2_ok (f := eC (.int 4)) (g := eC (.int 2)) rfl rfl) (H.g 4 2 S3 (by decide) (by decide) (by decide) (by decide))) rfl (dEq_int.trans ?_)))⟩
  rw [h42]
  rfl
theorem law_true (ns : List Int) (h : ns.length ≤ 63) : ∃ M, tabOf Prog 200 12 [.ref 0] [.frz (ns.map D.int)] = .ok (.bl true) M := by
  rw [show (200 : Nat) = 199 + 1 by rfl, ent12]
  obtain ⟨A, B, C, hsrc, hs1⟩ := src_ok (P := Prog) (k := 198) pg5 rfl rfl rfl h
  have H : Has (tabOf Prog (139 + 60)) := has_ok 139
  have hcnt : ∀ M, tabOf Prog (198 + 1) 8 [.int 40] M = .ok (.ref M.length) (M ++ [.lst (csV.map D.int)]) := fun M => law_counts_ok
  have hpr : ∀ (M : Store) (c : Nat), M[c]? = some (.lst (csV.map D.int)) → tabOf Prog (197 + 2) 10 [.ref c, .int 40] M = .ok (.ref M.length) (M ++ [.dicK (dicP 39)]) := fun M c hc => many_primes_ok hc
  have hmx : ∀ (M : Store) (s c t : Nat) (L : List Int), Src M s c → M[t]? = some (.lst (L.map D.int)) → L.length ≤ 999 → ∃ (M' : Store) (L' : List Int), tabOf Prog (197 + 2) 7 [.ref s, .ref t] M = .ok (.ref M'.length) (M' ++ [.lst (L'.map D.int)]) ∧ (∀ x ∈ L', x ∈ L) ∧ Src M' s c ∧ But s c M M' ∧ L'.length = L.length := fun M s c t L a b d => mixed_ok a b d
  simp only [show 139 + 60 = 199 by rfl, show 198 + 1 = 199 by rfl, show 197 + 2 = 199 by rfl] at H hcnt hpr hmx hsrc
  generalize tabOf Prog 199 = T at H hcnt hpr hmx hsrc ⊢
  obtain ⟨M0, hM0⟩ : ∃ M0, M0 = [MO.frz (ns.map D.int)] := ⟨_, rfl⟩
  obtain ⟨M1, hM1⟩ : ∃ M1, M1 = [MO.frz (ns.map D.int), A, B, C] := ⟨_, rfl⟩
  rw [← hM0] at hsrc ⊢
  rw [← hM1] at hsrc hs1
  obtain ⟨M2, hM2⟩ : ∃ M2, M2 = M1 ++ [MO.lst (csV.map D.int)] := ⟨_, rfl⟩
  obtain ⟨M3, hM3⟩ : ∃ M3, M3 = M2 ++ [MO.dicK (dicP 39)] := ⟨_, rfl⟩
  obtain ⟨Lr, hLr⟩ : ∃ Lr : List Int, Lr = (List.range 39).map fun (i : Nat) => 2 + (i : Int) := ⟨_, rfl⟩
  obtain ⟨M4, hM4⟩ : ∃ M4, M4 = M3 ++ [MO.lst (Lr.map D.int)] := ⟨_, rfl⟩
  have l1 : M1.length = 4 := by rw [hM1]; rfl
  have l2 : M2.length = 5 := by rw [hM2, List.length_append, l1]; rfl
  have l3 : M3.length = 6 := by rw [hM3, List.length_append, l2]; rfl
  have a2 : M2[4]? = some (.lst (csV.map D.int)) := by rw [hM2]; exact app_at' l1 _ _
  have a3 : M3[5]? = some (.dicK (dicP 39)) := by rw [hM3]; exact app_at' l2 _ _
  have a4 : M4[6]? = some (.lst (Lr.map D.int)) := by rw [hM4]; exact app_at' l3 _ _
  have hs4 : Src M4 1 3 := by rw [hM4, hM3, hM2]; exact ((hs1.app _).app _).app _
  obtain ⟨M5, L5, hm5, hin5, hs5, b5, len5⟩ := hmx M4 1 3 6 Lr hs4 a4 (by rw [hLr]; simp)
  have p5 : M5[5]? = some (.dicK (dicP 39)) := by rw [b5.at_ 5 (by decide) (by decide), hM4]; exact app_old a3 _
  have elr : eLrg2 (eC (.int 2)) (eC (.int 41)) [some (.ref 0), some (.ref 1), some (.ref 4), some (.ref 5), none, none, none, none, none, none, none] M3 = .ok (.ref 6) M4 := by
    have e : rgD 2 41 = Lr.map D.int := by
      rw [hLr, List.map_map]
      rfl
    show rgOut 2 41 M3 = _
    unfold rgOut
    rw [if_pos (by unfold cap; decide), e, hM4, l3]
  obtain ⟨L6, hcut, hin6, len6⟩ := cut_ints L5 none (some 5)
  obtain ⟨S5, hS5⟩ : ∃ S5, S5 = M5 ++ [MO.lst (L5.map D.int)] := ⟨_, rfl⟩
  obtain ⟨S6, hS6⟩ : ∃ S6, S6 = S5 ++ [MO.lst (L6.map D.int)] := ⟨_, rfl⟩
  obtain ⟨S7, hS7⟩ : ∃ S7, S7 = S6 ++ [MO.lst (([8, 16, 36] : List Int).map D.int)] := ⟨_, rfl⟩
  obtain ⟨S8, hS8⟩ : ∃ S8, S8 = S7 ++ [MO.lst ((L6 ++ [8, 16, 36]).map D.int)] := ⟨_, rfl⟩
  have c5 : S5[M5.length]? = some (.lst (L5.map D.int)) := by rw [hS5]; exact app_at _ _ _
  have c6 : S6[S5.length]? = some (.lst (L6.map D.int)) := by rw [hS6]; exact app_at _ _ _
  have c7 : S7[S6.length]? = some (.lst (([8, 16, 36] : List Int).map D.int)) := by rw [hS7]; exact app_at _ _ _
  have c76 : S7[S5.length]? = some (.lst (L6.map D.int)) := by rw [hS7]; exact app_old c6 _
  have c8 : S8[S7.length]? = some (.lst ((L6 ++ [8, 16, 36]).map D.int)) := by rw [hS8]; exact app_at _ _ _
  have p8 : S8[5]? = some (.dicK (dicP 39)) := by rw [hS8, hS7, hS6, hS5]; exact app_old (app_old (app_old (app_old p5 _) _) _) _
  have lenr : Lr.length = 39 := by rw [hLr]; simp
  have eit : itE (eBin dAdd (eCut (eCall T 7 (lCons (eVar 1) (lCons (eLrg2 (eC (.int 2)) (eC (.int 41))) (lNil)))) oNone (oSome (eC (.int 5)))) (eLst (lCons (eC (.int 8)) (lCons (eC (.int 16)) (lCons (eC (.int 36)) (lNil)))))) [some (.ref 0), some (.ref 1), some (.ref 4), some (.ref 5), none, none, none, none, none, none, none] M3 = .ok (itLive S7.length) S8 := by
    have e1 : eCall T 7 (lCons (eVar 1) (lCons (eLrg2 (eC (.int 2)) (eC (.int 41))) (lNil))) [some (.ref 0), some (.ref 1), some (.ref 4), some (.ref 5), none, none, none, none, none, none, none] M3 = .ok (.ref M5.length) S5 := callL_ok (l2_ok rfl elr) (hm5.trans (by rw [hS5]))
    have e2 : eCut (eCall T 7 (lCons (eVar 1) (lCons (eLrg2 (eC (.int 2)) (eC (.int 41))) (lNil)))) oNone (oSome (eC (.int 5))) [some (.ref 0), some (.ref 1), some (.ref 4), some (.ref 5), none, none, none, none, none, none, none] M3 = .ok (.ref S5.length) S6 := by
      simp only [eCut, e1, Out.bind, oNone, oSome, eC, dCut, c5, hcut]
      rw [hS6]
    have e3 : eLst (lCons (eC (.int 8)) (lCons (eC (.int 16)) (lCons (eC (.int 36)) (lNil)))) [some (.ref 0), some (.ref 1), some (.ref 4), some (.ref 5), none, none, none, none, none, none, none] S6 = .ok (.ref S6.length) S7 := by
      rw [hS7]
      exact lst_ok (lc_ok rfl (l2_ok rfl rfl)) (by unfold cap; decide)
    have e4 : dAdd (.ref S5.length) (.ref S6.length) S7 = .ok (.ref S7.length) S8 := by
      simp only [dAdd, c76, c7]
      rw [if_pos (by rw [List.length_map, List.length_map]; simp only [List.length_cons, List.length_nil]; unfold cap; omega), hS8, List.map_append]
    have e5 := bi_ok e2 e3 e4
    simp only [itE, e5, Out.bind, itD, liveAt, c8]
  have hrange : ∀ x ∈ L6 ++ [8, 16, 36], ∃ n : Nat, x = (n : Int) ∧ 2 ≤ n ∧ n ≤ 40 := fun x hx => by
    rcases List.mem_append.mp hx with q | q
    · have := hin5 x (hin6 x q)
      rw [hLr] at this
      obtain ⟨i, hi, rfl⟩ := List.mem_map.mp this
      have := List.mem_range.mp hi
      exact ⟨2 + i, by omega, by omega, by omega⟩
    · simp at q
      rcases q with rfl | rfl | rfl
      · exact ⟨8, rfl, by decide, by decide⟩
      · exact ⟨16, rfl, by decide, by decide⟩
      · exact ⟨36, rfl, by decide, by decide⟩
  have loop1 : ∃ j4 j5 N, sFor (itE (eBin dAdd (eCut (eCall T 7 (lCons (eVar 1) (lCons (eLrg2 (eC (.int 2)) (eC (.int 41))) (lNil)))) oNone (oSome (eC (.int 5)))) (eLst (lCons (eC (.int 8)) (lCons (eC (.int 16)) (lCons (eC (.int 36)) (lNil))))))) (.nm 4) (d12_b0 T) (eta59 4 5 none none) M3 = .nx (eta59 4 5 j4 j5) (S8 ++ N) := by
    refine sfor_ds ((L6 ++ [8, 16, 36]).map D.int) (R := fun o => ∃ j4 j5 N, o = .nx (eta59 4 5 j4 j5) (S8 ++ N)) eit (fun i eta S => ∃ j4 j5 N, eta = eta59 4 5 j4 j5 ∧ S = S8 ++ N) (by rw [List.length_map, List.length_append]; simp only [List.length_cons, List.length_nil]; omega) (fun i eta S ⟨j4, j5, N, e1, e2⟩ => by
        subst e2
        simp only [itLive, liveAt, app_old c8, Option.map_some]) ⟨none, none, [], rfl, by rw [List.append_nil]⟩ (fun i d eta S hd hI => ?_) (fun eta S ⟨j4, j5, N, e1, e2⟩ => by subst e1; subst e2; exact ⟨_, _, _, rfl⟩)
    obtain ⟨j4, j5, N, e1, e2⟩ := hI
    subst e1; subst e2
    rw [List.getElem?_map] at hd
    obtain ⟨x, hx, rfl⟩ := Option.map_eq_some_iff.mp hd
    obtain ⟨n, rfl, n1, n2⟩ := hrange x (List.mem_of_getElem? hx)
    obtain ⟨N', ht⟩ := turn_ok H (c := 4) (p := 5) (j5 := j5) (S := S8 ++ N) (app_old p8 _) n1 n2
    refine ⟨eta59 4 5 (some (.int n)) j5, rfl, ?_⟩
    rw [ht]
    exact ⟨_, _, N ++ N', rfl, by rw [List.append_assoc]⟩
  obtain ⟨j4, j5, N, loop1⟩ := loop1
  obtain ⟨Z, hZ⟩ : ∃ Z, Z = S8 ++ N := ⟨_, rfl⟩
  rw [← hZ] at loop1
  obtain ⟨Z1, hZ1⟩ : ∃ Z1, Z1 = Z ++ [MO.lst [.tup [.int 2, .int 3], .tup [.int 3, .int 5], .tup [.int 2, .int 7]]] := ⟨_, rfl⟩
  have cz : Z1[Z.length]? = some (MO.lst [.tup [.int 2, .int 3], .tup [.int 3, .int 5], .tup [.int 2, .int 7]]) := by rw [hZ1]; exact app_at _ _ _
  have eit2 : itE (eLst (lCons (eTup (lCons (eC (.int 2)) (lCons (eC (.int 3)) (lNil)))) (lCons (eTup (lCons (eC (.int 3)) (lCons (eC (.int 5)) (lNil)))) (lCons (eTup (lCons (eC (.int 2)) (lCons (eC (.int 7)) (lNil)))) (lNil))))) (eta59 4 5 j4 j5) Z = .ok (itLive Z.length) Z1 := by
    have e1 : eLst (lCons (eTup (lCons (eC (.int 2)) (lCons (eC (.int 3)) (lNil)))) (lCons (eTup (lCons (eC (.int 3)) (lCons (eC (.int 5)) (lNil)))) (lCons (eTup (lCons (eC (.int 2)) (lCons (eC (.int 7)) (lNil)))) (lNil)))) (eta59 4 5 j4 j5) Z = .ok (.ref Z.length) Z1 := by
      rw [hZ1]
      exact lst_ok (lc_ok (tup_ok (l2_ok rfl rfl) (by unfold cap; decide)) (l2_ok (tup_ok (l2_ok rfl rfl) (by unfold cap; decide)) (tup_ok (l2_ok rfl rfl) (by unfold cap; decide)))) (by unfold cap; decide)
    simp only [itE, e1, Out.bind, itD, liveAt, cz]
  have loop2 : ∃ x6 x7 x8, sFor (itE (eLst (lCons (eTup (lCons (eC (.int 2)) (lCons (eC (.int 3)) (lNil)))) (lCons (eTup (lCons (eC (.int 3)) (lCons (eC (.int 5)) (lNil)))) (lCons (eTup (lCons (eC (.int 2)) (lCons (eC (.int 7)) (lNil)))) (lNil)))))) (.tp [.nm 6, .nm 7]) (d12_b1 T) (eta59 4 5 j4 j5) Z = .nx [some (.ref 0), some (.ref 1), some (.ref 4), some (.ref 5), j4, j5, x6, x7, x8, none, none] Z1 := by
    refine sfor_ds [.tup [.int 2, .int 3], .tup [.int 3, .int 5], .tup [.int 2, .int 7]] (R := fun o => ∃ x6 x7 x8, o = .nx [some (.ref 0), some (.ref 1), some (.ref 4), some (.ref 5), j4, j5, x6, x7, x8, none, none] Z1) eit2 (fun i eta S => ∃ x6 x7 x8, eta = [some (.ref 0), some (.ref 1), some (.ref 4), some (.ref 5), j4, j5, x6, x7, x8, none, none] ∧ S = Z1) (by decide) (fun i eta S ⟨x6, x7, x8, e1, e2⟩ => by
        subst e2
        simp only [itLive, liveAt, cz, Option.map_some]) ⟨none, none, none, rfl, rfl⟩ (fun i d eta S hd hI => ?_) (fun eta S ⟨x6, x7, x8, e1, e2⟩ => by subst e1; subst e2; exact ⟨_, _, _, rfl⟩)
    obtain ⟨x6, x7, x8, e1, e2⟩ := hI
    subst e1; subst e2
    have key : ∀ a b : Nat, 2 ≤ a ∧ a ≤ 40 → 2 ≤ b ∧ b ≤ 40 → 2 ≤ a * b ∧ a * b ≤ 40 → cg (a * b) 2 = cp a * cp b * 2 → d = .tup [.int a, .int b] → ∃ eta1, asg S (.tp [.nm 6, .nm 7]) d [some (.ref 0), some (.ref 1), some (.ref 4), some (.ref 5), j4, j5, x6, x7, x8, none, none] = some eta1 ∧ StepR (fun eta S' => ∃ x6 x7 x8, eta = [some (.ref 0), some (.ref 1), some (.ref 4), some (.ref 5), j4, j5, x6, x7, x8, none, none] ∧ S' = S) (fun o => ∃ x6 x7 x8, o = .nx [some (.ref 0), some (.ref 1), some (.ref 4), some (.ref 5), j4, j5, x6, x7, x8, none, none] S) (d12_b1 T eta1 S) := fun a b h1 h2 h3 h4 e => by
      subst e
      refine ⟨[some (.ref 0), some (.ref 1), some (.ref 4), some (.ref 5), j4, j5, some (.int a), some (.int b), x8, none, none], by simp only [asg, asgs, partsD]; rfl, ?_⟩
      rw [pair_ok H h1 h2 h3 h4]
      exact ⟨_, _, _, rfl, rfl⟩
    match i, hd with
    | 0, hd => exact key 2 3 (by decide) (by decide) (by decide) (by decide +kernel) (Option.some.inj hd).symm
    | 1, hd => exact key 3 5 (by decide) (by decide) (by decide) (by decide +kernel) (Option.some.inj hd).symm
    | 2, hd => exact key 2 7 (by decide) (by decide) (by decide) (by decide +kernel) (Option.some.inj hd).symm
    | i + 3, hd => simp at hd
  obtain ⟨x6, x7, x8, loop2⟩ := loop2
  obtain ⟨Sz, hlast⟩ := last_ok H (x0 := some (.ref 0)) (x1 := some (.ref 1)) (x2 := some (.ref 4)) (x3 := some (.ref 5)) (x4 := j4) (x5 := j5) (x6 := x6) (x7 := x7) (x8 := x8) (S := Z1)
  have g1 : eCall T 5 (lCons (eVar 0) lNil) [some (.ref 0), none, none, none, none, none, none, none, none, none, none] M0 = .ok (.ref 1) M1 := callL_ok (l1_ok rfl) hsrc
  have g2 : eCall T 8 (lCons (eC (.int 40)) lNil) [some (.ref 0), some (.ref 1), none, none, none, none, none, none, none, none, none] M1 = .ok (.ref 4) M2 := callL_ok (l1_ok rfl) ((hcnt M1).trans (by rw [l1, hM2]))
  have g3 : eCall T 10 (lCons (eVar 2) (lCons (eC (.int 40)) lNil)) [some (.ref 0), some (.ref 1), some (.ref 4), none, none, none, none, none, none, none, none] M2 = .ok (.ref 5) M3 := callL_ok (l2_ok rfl rfl) ((hpr M2 4 a2).trans (by rw [l2, hM3]))
  have body : d12 T [some (.ref 0), none, none, none, none, none, none, none, none, none, none] M0 = .rt (.bl true) Sz := by
    unfold d12
    refine (seq_nx (asg_ok g1)).trans ?_
    refine (seq_nx (asg_ok g2)).trans ?_
    refine (seq_nx (asg_ok g3)).trans ?_
    refine (seq_nx loop1).trans ?_
    exact (seq_nx loop2).trans hlast
  rw [body]
  exact fin_bl _ _ _
end Ev

open PySem PySem.W PyProof.Rows
set_option maxRecDepth 100000 in
set_option maxHeartbeats 0 in
theorem PySem.Challenge.cw_lumpplans_k59_whole_sums_of_counts_holds : PySem.Challenge.rw_lumpplans_k59_whole_sums_of_counts.Holds := by
  w_on; o_law; k_head; (case hw => w_witness2)
  k_fill
  refine Ev.walk_ev (l := PySem.Challenge.rw_lumpplans_k59_whole_sums_of_counts) (n := 63) (k := 200) (t := Ev.tabOf Ev.Prog 200 12) rfl (by decide) rfl ⟨rfl, by decide, by decide⟩ (fun w h Y => PySem.W.kIn_of Y) ?F Ev.law_true
  case F =>
    intro w mg fa h KX G hmg
    refine' Ev.all_mk (l := PySem.Challenge.rw_lumpplans_k59_whole_sums_of_counts) KX G hmg ?a0 ?l0 ?c0 ?k0 ?a1 ?l1 ?c1 ?k1 ?a2 ?l2 ?c2 ?k2 ?a3 ?l3 ?c3 ?k3 ?a4 ?l4 ?c4 ?k4 ?a5 ?l5 ?c5 ?k5 ?a6 ?l6 ?c6 ?k6 ?a7 ?l7 ?c7 ?k7 ?a8 ?l8 ?c8 ?k8 ?a9 ?l9 ?c9 ?k9 ?a10 ?l10 ?c10 ?k10 ?a11 ?l11 ?c11 ?k11 ?a12 ?l12 ?c12 ?k12 ?z_abs ?z_int ?z_len ?z_list ?z_max ?z_range ?z_repr ?z_sum
    (case a0 => k_is); (case l0 => k_is); (case c0 => k_is); (case k0 => k_is)
    (case a1 => k_is); (case l1 => k_is); (case c1 => k_is); (case k1 => k_is)
    (case a2 => k_is); (case l2 => k_is); (case c2 => k_is); (case k2 => k_is)
    (case a3 => k_is); (case l3 => k_is); (case c3 => k_is); (case k3 => k_is)
    (case a4 => k_is); (case l4 => k_is); (case c4 => k_is); (case k4 => k_is)
    (case a5 => k_is); (case l5 => k_is); (case c5 => k_is); (case k5 => k_is)
    (case a6 => k_is); (case l6 => k_is); (case c6 => k_is); (case k6 => k_is)
    (case a7 => k_is); (case l7 => k_is); (case c7 => k_is); (case k7 => k_is)
    (case a8 => k_is); (case l8 => k_is); (case c8 => k_is); (case k8 => k_is)
    (case a9 => k_is); (case l9 => k_is); (case c9 => k_is); (case k9 => k_is)
    (case a10 => k_is); (case l10 => k_is); (case c10 => k_is); (case k10 => k_is)
    (case a11 => k_is); (case l11 => k_is); (case c11 => k_is); (case k11 => k_is)
    (case a12 => k_is); (case l12 => k_is); (case c12 => k_is); (case k12 => k_is)
    (case z_abs => k_is)
    (case z_int => k_is)
    (case z_len => k_is)
    (case z_list => k_is)
    (case z_max => k_is)
    (case z_range => k_is)
    (case z_repr => k_is)
    (case z_sum => k_is)
#print axioms PySem.Challenge.cw_lumpplans_k59_whole_sums_of_counts_holds
