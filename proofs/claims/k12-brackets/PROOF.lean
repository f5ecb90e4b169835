import PyProof.Rows.All
import Wide.All
import OpenK.AllK
import Wide.FinOn
import HandS.ForMost
import HandS.ForExc
import HandS.More
import HandS.Style
import HandS.Flow
import HandS.TupAny
import HandS.TupMul
import HandS.TupLen
import HandS.IsInst
import HandS.Walk
import HandS.Zip
import HandS.Rev
import HandS.RevTup
import HandS.RevRange
import HandS.DictTup
import HandS.DictComp
import HandS.SortKw
import HandS.SortRule
import HandS.Deep
import HandS.Star
import HandS.MethStar
import HandS.Lambda
import HandS.Nested
import HandS.OwnEq
import HandS.TryMany
import HandS.ExcField
import HandS.ExcInit
import HandS.ExcSuper
import HandS.TupSets
import HandS.Conv
import HandS.StrMore
import HandS.FStr
import HandS.Wide
import HandS.Defaults
import HandS.CallLocal
import HandS.SetKeys
import HandS.Keys
import HandS.ListItems
import HandS.RaiseMore
import HandS.TupLe
import KE.GoesEnum
import PySem.Challenge.RW_lumpplans_k12_whole_brackets_do_not_matt
set_option Elab.async false
set_option linter.all false
set_option maxRecDepth 100000
/-! Ev, part A: values, stores, how they stand in the hand layer's heap. -/
namespace Ev
open PySem L2

/-- a value: data as a tree; ref: a place of the store; cst: a thing of the written part (a def, a class, a type); ktp: a tuple of the written part -/
inductive D where
  | non | bl (b : Bool) | int (i : Int) | str (x : Str) | tup (xs : List D) | ref (n : Nat) | cst (v : V) | ktp (xs : List D)

/-- what stands in the store -/
inductive MO where
  | lst (xs : List D)
  | frz (xs : List D)
  | dicK (kvs : List (Key × D))
  | dicT (kvs : List (List Key × D))
  | ins (c : Nat) (fs : List (Str × D))

abbrev Store := List MO
abbrev Env := List (Option D)

inductive Out (α : Type) where
  | ok (a : α) (M : Store)
  | exc (x : Nat) (fs : List (Str × D)) (M : Store)
  | bad

def cap : Nat := 16777216
theorem cap_eq : cap = sizeLine := by decide +kernel

/-! ### how they stand -/
mutual
/-- rho: the addresses of the store's places -/
def Rep (K : PySem.W.Frag) (rho : List Addr) (H : Hp) : D → V → Prop
  | .non, v => v = .non
  | .bl b, v => v = .bl b
  | .int i, v => v = .int i
  | .str x, v => v = .str x
  | .tup ds, v => ∃ a vs, v = .ref a ∧ H a = some (.tup vs) ∧ Reps K rho H ds vs
  | .ktp ds, v => ∃ a vs, v = .ref a ∧ SqT K H a vs ∧ Reps K rho H ds vs
  | .ref n, v => ∃ a, v = .ref a ∧ rho[n]? = some a
  | .cst u, v => v = u
def Reps (K : PySem.W.Frag) (rho : List Addr) (H : Hp) : List D → List V → Prop
  | [], vs => vs = []
  | d :: ds, vs => ∃ v ws, vs = v :: ws ∧ Rep K rho H d v ∧ Reps K rho H ds ws
end

/-- later: more places, the tuples kept -/
structure Ext (rho : List Addr) (H : Hp) (rho' : List Addr) (H' : Hp) : Prop where
  pre : rho <+: rho'
  tups : ∀ b xs, H b = some (.tup xs) → H' b = some (.tup xs)
  frzs : ∀ b o u, H b = some (.frz o u) → H' b = some (.frz o u)

theorem Ext.refl (rho : List Addr) (H : Hp) : Ext rho H rho H := ⟨List.prefix_refl _, fun _ _ h => h, fun _ _ _ h => h⟩
theorem Ext.trans {r r1 r2 : List Addr} {H H1 H2 : Hp} (a : Ext r H r1 H1) (b : Ext r1 H1 r2 H2) : Ext r H r2 H2 :=
  ⟨List.IsPrefix.trans a.pre b.pre, fun c xs h => b.tups c xs (a.tups c xs h), fun c o u h => b.frzs c o u (a.frzs c o u h)⟩

section
variable {K : PySem.W.Frag} {rho rho' : List Addr} {H H' : Hp}
theorem Ext.get (e : Ext rho H rho' H') {n : Nat} {a : Addr} (h : rho[n]? = some a) : rho'[n]? = some a := by
  obtain ⟨t, rfl⟩ := e.pre
  have hn : n < rho.length := (List.getElem?_eq_some_iff.mp h).1
  rw [List.getElem?_append_left hn]; exact h
theorem Ext.rd (e : Ext rho H rho' H') {a : Addr} {vs : List V} (h : Rd H a (.tup vs)) : Rd H' a (.tup vs) := by
  rcases h with h | ⟨o, h⟩
  · exact .inl (e.tups _ _ h)
  · exact .inr ⟨o, e.frzs _ _ _ h⟩
theorem Ext.sq (e : Ext rho H rho' H') {a : Addr} {vs : List V} (h : SqT K H a vs) : SqT K H' a vs := by
  rcases h with h | h
  · exact .inl (e.rd h)
  · exact .inr h
mutual
theorem Rep.mono (e : Ext rho H rho' H') : ∀ (d : D) (v : V), Rep K rho H d v → Rep K rho' H' d v
  | .non, _, h => by simpa only [Rep] using h
  | .bl _, _, h => by simpa only [Rep] using h
  | .int _, _, h => by simpa only [Rep] using h
  | .str _, _, h => by simpa only [Rep] using h
  | .cst _, _, h => by simpa only [Rep] using h
  | .ref n, v, h => by
    simp only [Rep] at h ⊢
    obtain ⟨a, h1, h2⟩ := h
    exact ⟨a, h1, e.get h2⟩
  | .tup ds, v, h => by
    simp only [Rep] at h ⊢
    obtain ⟨a, vs, h1, h2, h3⟩ := h
    exact ⟨a, vs, h1, e.tups _ _ h2, Reps.mono e ds vs h3⟩
  | .ktp ds, v, h => by
    simp only [Rep] at h ⊢
    obtain ⟨a, vs, h1, h2, h3⟩ := h
    exact ⟨a, vs, h1, e.sq h2, Reps.mono e ds vs h3⟩
theorem Reps.mono (e : Ext rho H rho' H') : ∀ (ds : List D) (vs : List V), Reps K rho H ds vs → Reps K rho' H' ds vs
  | [], _, h => by simpa only [Reps] using h
  | d :: ds, vs, h => by
    simp only [Reps] at h ⊢
    obtain ⟨v, ws, h1, h2, h3⟩ := h
    exact ⟨v, ws, h1, Rep.mono e d v h2, Reps.mono e ds ws h3⟩
end
end

section
variable {K : PySem.W.Frag} {rho : List Addr} {H : Hp}
theorem Reps.length : ∀ {ds : List D} {vs : List V}, Reps K rho H ds vs → vs.length = ds.length
  | [], _, h => by simp only [Reps] at h; subst h; rfl
  | d :: ds, vs, h => by
    simp only [Reps] at h
    obtain ⟨v, ws, rfl, _, h3⟩ := h
    simp [Reps.length h3]
theorem Reps.nil : Reps K rho H [] [] := by simp [Reps]
theorem Reps.cons {d : D} {ds : List D} {v : V} {vs : List V} (h : Rep K rho H d v) (h' : Reps K rho H ds vs) : Reps K rho H (d :: ds) (v :: vs) := by
  simp only [Reps]; exact ⟨v, vs, rfl, h, h'⟩
theorem Reps.append : ∀ {ds es : List D} {vs ws : List V}, Reps K rho H ds vs → Reps K rho H es ws → Reps K rho H (ds ++ es) (vs ++ ws)
  | [], _, _, _, h, h' => by simp only [Reps] at h; subst h; exact h'
  | d :: ds, es, vs, ws, h, h' => by
    simp only [Reps] at h
    obtain ⟨v, us, rfl, h2, h3⟩ := h
    exact Reps.cons h2 (Reps.append h3 h')
theorem Reps.get : ∀ {ds : List D} {vs : List V} {i : Nat} {d : D}, Reps K rho H ds vs → ds[i]? = some d → ∃ v, vs[i]? = some v ∧ Rep K rho H d v
  | [], _, i, d, _, e => by simp at e
  | x :: ds, vs, 0, d, h, e => by
    simp only [Reps] at h
    obtain ⟨v, ws, rfl, h2, _⟩ := h
    simp at e; subst e
    exact ⟨v, rfl, h2⟩
  | x :: ds, vs, i + 1, d, h, e => by
    simp only [Reps] at h
    obtain ⟨v, ws, rfl, _, h3⟩ := h
    obtain ⟨w, h4, h5⟩ := Reps.get h3 (by simpa using e)
    exact ⟨w, by simpa using h4, h5⟩
theorem Reps.split : ∀ {ds es : List D} {vs : List V}, Reps K rho H (ds ++ es) vs → ∃ us ws, vs = us ++ ws ∧ Reps K rho H ds us ∧ Reps K rho H es ws
  | [], es, vs, h => ⟨[], vs, rfl, Reps.nil, h⟩
  | d :: ds, es, vs, h => by
    simp only [List.cons_append, Reps] at h
    obtain ⟨v, ws, rfl, h2, h3⟩ := h
    obtain ⟨us, xs, rfl, h4, h5⟩ := Reps.split h3
    exact ⟨v :: us, xs, rfl, Reps.cons h2 h4, h5⟩
theorem Reps.one {d : D} {vs : List V} (h : Reps K rho H [d] vs) : ∃ v, vs = [v] ∧ Rep K rho H d v := by
  simp only [Reps] at h
  obtain ⟨v, ws, rfl, h2, rfl⟩ := h
  exact ⟨v, rfl, h2⟩
theorem Reps.two {d e : D} {vs : List V} (h : Reps K rho H [d, e] vs) : ∃ v w, vs = [v, w] ∧ Rep K rho H d v ∧ Rep K rho H e w := by
  simp only [Reps] at h
  obtain ⟨v, ws, rfl, h2, w, _, rfl, h3, rfl⟩ := h
  exact ⟨v, w, rfl, h2, h3⟩
theorem Reps.three {d e f : D} {vs : List V} (h : Reps K rho H [d, e, f] vs) : ∃ v w x, vs = [v, w, x] ∧ Rep K rho H d v ∧ Rep K rho H e w ∧ Rep K rho H f x := by
  simp only [Reps] at h
  obtain ⟨v, ws, rfl, h2, w, _, rfl, h3, x, _, rfl, h4, rfl⟩ := h
  exact ⟨v, w, x, rfl, h2, h3, h4⟩
theorem Reps.set : ∀ {ds : List D} {vs : List V} {d : D} {v : V} (i : Nat), Reps K rho H ds vs → Rep K rho H d v → Reps K rho H (ds.set i d) (vs.set i v)
  | [], _, _, _, _, h, _ => by simp only [Reps] at h; subst h; exact Reps.nil
  | x :: ds, vs, d, v, 0, h, r => by
    simp only [Reps] at h
    obtain ⟨u, ws, rfl, h2, h3⟩ := h
    exact Reps.cons r h3
  | x :: ds, vs, d, v, i + 1, h, r => by
    simp only [Reps] at h
    obtain ⟨u, ws, rfl, h2, h3⟩ := h
    exact Reps.cons h2 (Reps.set i h3 r)
theorem Reps.drop : ∀ {ds : List D} {vs : List V} (i : Nat), Reps K rho H ds vs → Reps K rho H (ds.drop i) (vs.drop i)
  | _, _, 0, h => h
  | [], _, i + 1, h => by simp only [Reps] at h; subst h; exact Reps.nil
  | x :: ds, vs, i + 1, h => by
    simp only [Reps] at h
    obtain ⟨u, ws, rfl, h2, h3⟩ := h
    exact Reps.drop i h3
theorem Reps.take : ∀ {ds : List D} {vs : List V} (i : Nat), Reps K rho H ds vs → Reps K rho H (ds.take i) (vs.take i)
  | _, _, 0, _ => Reps.nil
  | [], _, i + 1, h => by simp only [Reps] at h; subst h; exact Reps.nil
  | x :: ds, vs, i + 1, h => by
    simp only [Reps] at h
    obtain ⟨u, ws, rfl, h2, h3⟩ := h
    exact Reps.cons h2 (Reps.take i h3)
theorem Reps.reverse : ∀ {ds : List D} {vs : List V}, Reps K rho H ds vs → Reps K rho H ds.reverse vs.reverse
  | [], _, h => by simp only [Reps] at h; subst h; exact Reps.nil
  | x :: ds, vs, h => by
    simp only [Reps] at h
    obtain ⟨u, ws, rfl, h2, h3⟩ := h
    rw [List.reverse_cons, List.reverse_cons]
    exact Reps.append (Reps.reverse h3) (Reps.cons h2 Reps.nil)
theorem Reps.erase : ∀ {ds : List D} {vs : List V} (i : Nat), Reps K rho H ds vs → Reps K rho H (ds.eraseIdx i) (vs.eraseIdx i)
  | [], _, _, h => by simp only [Reps] at h; subst h; exact Reps.nil
  | x :: ds, vs, 0, h => by
    simp only [Reps] at h
    obtain ⟨u, ws, rfl, h2, h3⟩ := h
    exact h3
  | x :: ds, vs, i + 1, h => by
    simp only [Reps] at h
    obtain ⟨u, ws, rfl, h2, h3⟩ := h
    exact Reps.cons h2 (Reps.erase i h3)
theorem Reps.rep {ds : List D} {vs : List V} (h : Reps K rho H ds vs) : ∀ k : Nat, Reps K rho H (List.replicate k ds).flatten (List.replicate k vs).flatten
  | 0 => Reps.nil
  | k + 1 => by
    rw [List.replicate_succ, List.replicate_succ, List.flatten_cons, List.flatten_cons]
    exact Reps.append h (Reps.rep h k)
theorem Reps.dropLast {ds : List D} {vs : List V} (h : Reps K rho H ds vs) : Reps K rho H ds.dropLast vs.dropLast := by
  rw [List.dropLast_eq_take, List.dropLast_eq_take, h.length]
  exact Reps.take _ h
end

/-- pairs of a key and a value -/
def RepKV {κ : Type} (K : PySem.W.Frag) (rho : List Addr) (H : Hp) (ds : List (κ × D)) (vs : List (κ × V)) : Prop :=
  ds.map (·.1) = vs.map (·.1) ∧ Reps K rho H (ds.map (·.2)) (vs.map (·.2))
theorem RepKV.mono {κ : Type} {K : PySem.W.Frag} {rho rho' : List Addr} {H H' : Hp} {ds : List (κ × D)} {vs : List (κ × V)} (e : Ext rho H rho' H') (h : RepKV K rho H ds vs) : RepKV K rho' H' ds vs :=
  ⟨h.1, h.2.mono e⟩

/-- a list that nobody writes -/
def FrzL (K : PySem.W.Frag) (H : Hp) (a : Addr) (vs : List V) : Prop :=
  (∃ o, H a = some (.frz o (.lst vs))) ∨
    ∃ (o : Obj) (its : Array Value) (n : Nat), K.lookup a = some o ∧ o.cls = .type "list" ∧ o.dict = none ∧ o.data = .seq its n ∧ its.size ≤ sizeLine ∧ Vals vs its.toList
theorem FrzL.sq {K : PySem.W.Frag} {H : Hp} {a : Addr} {vs : List V} (h : FrzL K H a vs) : SqL K H a vs := by
  rcases h with ⟨o, h⟩ | h
  · exact .inl (.inr ⟨o, h⟩)
  · exact .inr h
theorem FrzL.mono {K : PySem.W.Frag} {rho rho' : List Addr} {H H' : Hp} {a : Addr} {vs : List V} (e : Ext rho H rho' H') (h : FrzL K H a vs) : FrzL K H' a vs := by
  rcases h with ⟨o, h⟩ | h
  · exact .inl ⟨o, e.frzs _ _ _ h⟩
  · exact .inr h
def MO.isFrz : MO → Bool
  | .frz _ => true
  | _ => false

/-- an object of the store as it stands at a. T: the classes' addresses -/
def RepO (K : PySem.W.Frag) (T : List Addr) (rho : List Addr) (H : Hp) (a : Addr) : MO → Prop
  | .lst ds => ∃ vs, H a = some (.lst vs) ∧ Reps K rho H ds vs
  | .frz ds => ∃ vs, FrzL K H a vs ∧ Reps K rho H ds vs
  | .dicK ds => ∃ vs, H a = some (.dK vs) ∧ RepKV K rho H ds vs
  | .dicT ds => ∃ vs, H a = some (.dT vs) ∧ RepKV K rho H ds vs
  | .ins c fs => ∃ C dx vs, T[c]? = some C ∧ H a = some (.ins C dx vs) ∧ RepKV K rho H fs vs
theorem RepO.there {K : PySem.W.Frag} {T rho : List Addr} {H : Hp} {a : Addr} {o : MO} (h : RepO K T rho H a o) (hf : o.isFrz = false) : ∃ u, H a = some u ∧ Mut (some u) := by
  cases o with
  | lst ds => obtain ⟨vs, h1, _⟩ := h; exact ⟨_, h1, trivial⟩
  | frz ds => simp [MO.isFrz] at hf
  | dicK ds => obtain ⟨vs, h1, _⟩ := h; exact ⟨_, h1, trivial⟩
  | dicT ds => obtain ⟨vs, h1, _⟩ := h; exact ⟨_, h1, trivial⟩
  | ins c fs => obtain ⟨C, dx, vs, _, h1, _⟩ := h; exact ⟨_, h1, trivial⟩
theorem RepO.mono {K : PySem.W.Frag} {T rho rho' : List Addr} {H H' : Hp} {a : Addr} {o : MO} (h : RepO K T rho H a o) (e : Ext rho H rho' H') (ha : o.isFrz = false → H' a = H a) : RepO K T rho' H' a o := by
  cases o with
  | lst ds => obtain ⟨vs, h1, h2⟩ := h; exact ⟨vs, (ha rfl).trans h1, Reps.mono e _ _ h2⟩
  | frz ds => obtain ⟨vs, h1, h2⟩ := h; exact ⟨vs, h1.mono e, Reps.mono e _ _ h2⟩
  | dicK ds => obtain ⟨vs, h1, h2⟩ := h; exact ⟨vs, (ha rfl).trans h1, h2.mono e⟩
  | dicT ds => obtain ⟨vs, h1, h2⟩ := h; exact ⟨vs, (ha rfl).trans h1, h2.mono e⟩
  | ins c fs => obtain ⟨C, dx, vs, h0, h1, h2⟩ := h; exact ⟨C, dx, vs, h0, (ha rfl).trans h1, h2.mono e⟩

structure StR (K : PySem.W.Frag) (T : List Addr) (rho : List Addr) (H : Hp) (M : Store) : Prop where
  len : rho.length = M.length
  inj : ∀ (i j : Nat) (a : Addr) (o u : MO), rho[i]? = some a → rho[j]? = some a → M[i]? = some o → M[j]? = some u → o.isFrz = false → u.isFrz = false → i = j
  at_ : ∀ (n : Nat) (a : Addr) (o : MO), rho[n]? = some a → M[n]? = some o → RepO K T rho H a o

section
variable {K : PySem.W.Frag} {T rho : List Addr} {H : Hp} {M : Store}
/-- a new object is laid -/
theorem Ext.laid {p : Addr} {u : HO} (hp : H p = none) : Ext rho H rho (upd H p u) :=
  ⟨List.prefix_refl _, fun b xs h => by rw [upd_ne (ne_of_none h hp)]; exact h, fun b o u h => by rw [upd_ne (ne_of_none h hp)]; exact h⟩
theorem Ext.grow {p : Addr} : Ext rho H (rho ++ [p]) H := ⟨List.prefix_append _ _, fun _ _ h => h, fun _ _ _ h => h⟩
theorem Ext.write {p : Addr} {u : HO} (hp : Mut (H p)) : Ext rho H rho (upd H p u) :=
  ⟨List.prefix_refl _, fun b xs h => by rw [upd_ne (fun z => by subst z; rw [h] at hp; exact hp)]; exact h, fun b o u h => by rw [upd_ne (fun z => by subst z; rw [h] at hp; exact hp)]; exact h⟩
/-- the store as it was, behind something laid that is no object of it (a tuple) -/
theorem StR.laid {p : Addr} {u : HO} (S : StR K T rho H M) (hp : H p = none) : StR K T rho (upd H p u) M :=
  ⟨S.len, S.inj, fun n a o h1 h2 => (S.at_ n a o h1 h2).mono (Ext.laid hp) fun hf => by
    obtain ⟨w, hw, _⟩ := (S.at_ n a o h1 h2).there hf
    rw [upd_ne (ne_of_none hw hp)]⟩
/-- a new object of the store -/
theorem StR.alloc {p : Addr} {u : HO} {m : MO} (S : StR K T rho H M) (hp : H p = none) (hm : RepO K T (rho ++ [p]) (upd H p u) p m) : StR K T (rho ++ [p]) (upd H p u) (M ++ [m]) := by
  have key : ∀ (n : Nat) (a : Addr) (o : MO), rho[n]? = some a → M[n]? = some o → o.isFrz = false → a ≠ p := fun n a o h1 h2 hf => by
    obtain ⟨w, hw, _⟩ := (S.at_ n a o h1 h2).there hf
    exact ne_of_none hw hp
  have sp : ∀ (n : Nat) (a : Addr) (o : MO), (rho ++ [p])[n]? = some a → (M ++ [m])[n]? = some o → (rho[n]? = some a ∧ M[n]? = some o) ∨ (n = M.length ∧ a = p ∧ o = m) := fun n a o h1 h2 => by
    by_cases hn : n < M.length
    · rw [List.getElem?_append_left (by rw [S.len]; exact hn)] at h1
      rw [List.getElem?_append_left hn] at h2
      exact .inl ⟨h1, h2⟩
    · have hn' : n = M.length := by
        have := (List.getElem?_eq_some_iff.mp h2).1
        simp at this; omega
      subst hn'
      rw [← S.len] at h1
      simp at h1 h2
      exact .inr ⟨rfl, h1.symm, h2.symm⟩
  refine ⟨by simp [S.len], fun i j a o u' h1 h2 h3 h4 f1 f2 => ?_, fun n a o h1 h2 => ?_⟩
  · rcases sp i a o h1 h3 with ⟨a1, a2⟩ | ⟨a1, a2, a3⟩ <;> rcases sp j a u' h2 h4 with ⟨b1, b2⟩ | ⟨b1, b2, b3⟩
    · exact S.inj i j a o u' a1 b1 a2 b2 f1 f2
    · exact absurd b2 (key i a o a1 a2 f1)
    · exact absurd a2 (key j a u' b1 b2 f2)
    · omega
  · rcases sp n a o h1 h2 with ⟨a1, a2⟩ | ⟨a1, a2, a3⟩
    · exact (S.at_ n a o a1 a2).mono ((Ext.laid hp).trans Ext.grow) fun hf => by rw [upd_ne (key n a o a1 a2 hf)]
    · subst a2; subst a3; exact hm
/-- an object is written -/
theorem StR.write {n : Nat} {p : Addr} {u : HO} {m m' : MO} (S : StR K T rho H M) (hn : rho[n]? = some p) (ho : M[n]? = some m) (hf : m.isFrz = false) (hf' : m'.isFrz = false)
    (hm : RepO K T rho (upd H p u) p m') : StR K T rho (upd H p u) (M.set n m') := by
  obtain ⟨w, hw, hmu⟩ := (S.at_ n p m hn ho).there hf
  have E : Ext rho H rho (upd H p u) := Ext.write (by rw [hw]; exact hmu)
  have hl : n < M.length := (List.getElem?_eq_some_iff.mp ho).1
  have sp : ∀ (i : Nat) (o : MO), (M.set n m')[i]? = some o → (i = n ∧ o = m') ∨ (i ≠ n ∧ M[i]? = some o) := fun i o h => by
    by_cases hi : i = n
    · subst hi; rw [List.getElem?_set_self hl] at h; cases h; exact .inl ⟨rfl, rfl⟩
    · rw [List.getElem?_set_ne (Ne.symm hi)] at h; exact .inr ⟨hi, h⟩
  refine ⟨by simp [S.len], fun i j a o o' h1 h2 h3 h4 f1 f2 => ?_, fun i a o h1 h2 => ?_⟩
  · rcases sp i o h3 with ⟨a1, a2⟩ | ⟨a1, a2⟩ <;> rcases sp j o' h4 with ⟨b1, b2⟩ | ⟨b1, b2⟩
    · omega
    · subst a1; exact S.inj i j a m o' h1 h2 ho b2 hf f2
    · subst b1; exact S.inj i j a o m h1 h2 a2 ho f1 hf
    · exact S.inj i j a o o' h1 h2 a2 b2 f1 f2
  · rcases sp i o h2 with ⟨a1, a2⟩ | ⟨a1, a2⟩
    · subst a1; subst a2; rw [hn] at h1; cases h1; exact hm
    · refine (S.at_ i a o h1 a2).mono E fun f => ?_
      have : a ≠ p := fun z => by subst z; exact a1 (S.inj i n a o m h1 hn a2 ho f hf)
      rw [upd_ne this]
theorem StR.addr (S : StR K T rho H M) {n : Nat} {m : MO} (ho : M[n]? = some m) : ∃ a, rho[n]? = some a ∧ RepO K T rho H a m := by
  have hl : n < rho.length := by rw [S.len]; exact (List.getElem?_eq_some_iff.mp ho).1
  exact ⟨rho[n], List.getElem?_eq_getElem hl, S.at_ n _ m (List.getElem?_eq_getElem hl) ho⟩
end

/-- the slots -/
structure EnvR (K : PySem.W.Frag) (rho : List Addr) (H : Hp) (eta : Env) (σ : St) : Prop where
  len : eta.length = σ.length
  at_ : ∀ (i : Nat) (d : D), eta[i]? = some (some d) → ∃ v, σ[i]? = some (some v) ∧ Rep K rho H d v
end Ev

/-! Ev, part B: outcomes, readings, the first combinators. -/
namespace Ev
open PySem L2

def Out.bind {α β : Type} (o : Out α) (g : α → Store → Out β) : Out β :=
  match o with
  | .ok a M => g a M
  | .exc x fs M => .exc x fs M
  | .bad => .bad

/-- the written part that a program's evaluation leans on -/
structure Gd where
  K : PySem.W.Frag
  /-- the classes' addresses (own classes) -/
  T : List Addr
  /-- the exceptions' classes -/
  XT : List Addr

/-- an exception of class x with fields fs -/
def RepX (G : Gd) (rho : List Addr) (H : Hp) (x : Nat) (fs : List (Str × D)) (cls : Value) (dd : Option Addr) : Prop :=
  ∃ C, G.XT[x]? = some C ∧ cls = .ref C ∧ ((fs = [] ∧ dd = none) ∨ ∃ d vs, dd = some d ∧ H d = some (.xd vs) ∧ RepKV G.K rho H fs vs)

abbrev Kont (α : Type) := List Addr → Hp → α → Store → Prop

def Post (G : Gd) (W : WX) (σ : St) (rho : List Addr) (H : Hp) {α : Type} (Good : Kont α) : Out α → Prop
  | .ok a M => ∀ rho' H', Ext rho H rho' H' → StR G.K G.T rho' H' M → Good rho' H' a M
  | .exc x fs M => ∀ rho' H' cls dd, Ext rho H rho' H' → StR G.K G.T rho' H' M → RepX G rho' H' x fs cls dd → W cls dd σ H'
  | .bad => False

section
variable {G : Gd} {W : WX} {σ : St} {rho rho' : List Addr} {H H' : Hp} {α β : Type}
theorem Post.ext {Good : Kont α} {o : Out α} (h : Post G W σ rho H Good o) (e : Ext rho H rho' H') : Post G W σ rho' H' Good o := by
  cases o with
  | ok a M => exact fun r1 H1 e1 S1 => h r1 H1 (e.trans e1) S1
  | exc x fs M => exact fun r1 H1 c d e1 S1 X1 => h r1 H1 c d (e.trans e1) S1 X1
  | bad => exact h
theorem Post.imp {Good Good' : Kont α} {o : Out α} (h : Post G W σ rho H Good o) (k : ∀ rho' H' a M, Ext rho H rho' H' → StR G.K G.T rho' H' M → Good rho' H' a M → Good' rho' H' a M) : Post G W σ rho H Good' o := by
  cases o with
  | ok a M => exact fun r1 H1 e1 S1 => k r1 H1 a M e1 S1 (h r1 H1 e1 S1)
  | exc x fs M => exact h
  | bad => exact h
theorem Post.bind {Good : Kont β} {o : Out α} {g : α → Store → Out β} (h : Post G W σ rho H Good (o.bind g)) : Post G W σ rho H (fun rho' H' a M => Post G W σ rho' H' Good (g a M)) o := by
  cases o with
  | ok a M => exact fun r1 H1 e1 S1 => Post.ext h e1
  | exc x fs M => exact h
  | bad => exact h
theorem Post.now {Good : Kont α} {a : α} {M : Store} (h : Post G W σ rho H Good (.ok a M)) (S : StR G.K G.T rho H M) : Good rho H a M := h rho H (Ext.refl _ _) S
theorem EnvR.mono {K : PySem.W.Frag} {eta : Env} (E : EnvR K rho H eta σ) (e : Ext rho H rho' H') : EnvR K rho' H' eta σ :=
  ⟨E.len, fun i d h => let ⟨v, h1, h2⟩ := E.at_ i d h; ⟨v, h1, Rep.mono e _ _ h2⟩⟩
end

/-- an expression's evaluation -/
abbrev EvE := Env → Store → Out D
abbrev EvL := Env → Store → Out (List D)
abbrev EvT := Env → Store → Out Bool

def GoodD (K : PySem.W.Frag) (Q : VK) : Kont D := fun rho H d _ => ∀ v, Rep K rho H d v → Q v H
def GoodL (K : PySem.W.Frag) (Q : List V → Hp → Prop) : Kont (List D) := fun rho H ds _ => ∀ vs, Reps K rho H ds vs → Q vs H
def GoodB (Q : Bool → Hp → Prop) : Kont Bool := fun _ H b _ => Q b H

def tE (G : Gd) (W : WX) (f : EvE) : TE := fun σ H Q => ∃ eta M rho, EnvR G.K rho H eta σ ∧ StR G.K G.T rho H M ∧ Post G W σ rho H (GoodD G.K Q) (f eta M)
def tL (G : Gd) (W : WX) (f : EvL) : TA := fun σ H Q => ∃ eta M rho, EnvR G.K rho H eta σ ∧ StR G.K G.T rho H M ∧ Post G W σ rho H (GoodL G.K Q) (f eta M)
def tT (G : Gd) (W : WX) (f : EvT) : TT := fun σ H Q => ∃ eta M rho, EnvR G.K rho H eta σ ∧ StR G.K G.T rho H M ∧ Post G W σ rho H (GoodB Q) (f eta M)

/-! ### judgements: a piece of syntax and its evaluation -/
def PEv (G : Gd) (X : Cx) (W : WX) (f : EvE) (e : Expr) : Prop := PE X e (tE G W f)
def PLv (G : Gd) (X : Cx) (W : WX) (f : EvL) (es : List Expr) : Prop := PA X es (tL G W f)
def PTv (G : Gd) (X : Cx) (W : WX) (f : EvT) (e : Expr) : Prop := PT X e (tT G W f)
def PWv (G : Gd) (X : Cx) (W : WX) (f : EvT) (e : Expr) : Prop := PW X e (tT G W f)

theorem PE.weak {X : Cx} {e : Expr} {t t' : TE} (h : PE X e t) (k : ∀ σ H Q, t' σ H Q → t σ H Q) : PE X e t' := ⟨fun pins s σ H Q I q => h.run pins s σ H Q I (k σ H Q q)⟩
theorem PT.weak {X : Cx} {e : Expr} {t t' : TT} (h : PT X e t) (k : ∀ σ H Q, t' σ H Q → t σ H Q) : PT X e t' := ⟨fun pins s σ H Q I q => h.run pins s σ H Q I (k σ H Q q)⟩
theorem PW.weak {X : Cx} {e : Expr} {t t' : TT} (h : PW X e t) (k : ∀ σ H Q, t' σ H Q → t σ H Q) : PW X e t' := ⟨fun wh pins s σ H Q I q => h.run wh pins s σ H Q I (k σ H Q q)⟩
theorem PA.weak {X : Cx} {e : List Expr} {t t' : TA} (h : PA X e t) (k : ∀ σ H Q, t' σ H Q → t σ H Q) : PA X e t' := ⟨fun pos pins s σ H Q I q => h.run pos pins s σ H Q I (k σ H Q q)⟩
theorem PS.weak {X : Cx} {e : Stmt} {t t' : TS} (h : PS X e t) (k : ∀ D σ H, t' D σ H → t D σ H) : PS X e t' := ⟨fun pins s σ H D I q => h.run pins s σ H D I (k D σ H q)⟩
theorem PSs.weak {X : Cx} {e : List Stmt} {t t' : TS} (h : PSs X e t) (k : ∀ D σ H, t' D σ H → t D σ H) : PSs X e t' := ⟨fun pins s σ H D I q => h.run pins s σ H D I (k D σ H q)⟩

/-! ### constants and names -/
def eVar (i : Nat) : EvE := fun eta M => match eta[i]? with
  | some (some d) => .ok d M
  | _ => .bad
def eC (d : D) : EvE := fun _ M => .ok d M

section
variable {G : Gd} {X : Cx} {W : WX}
theorem ev_var {i : Nat} {x : Str} {pos : Pos} (hN : X.N[i]? = some x := by rfl) (hv : Vis X.env.scope x := by first | exact Or.inl rfl | exact Or.inr (Or.inl rfl) | exact Or.inr (Or.inr rfl))
    (hd : (x == ("__debug__" : Str)) = false := by decide) (hcd : (x == ("__classdict__" : Str)) = false := by decide) : PEv G X W (eVar i) (.Name x pos) :=
  PE.weak (pe_var hN hv hd hcd) fun σ H Q ⟨eta, M, rho, E, S, P⟩ => by
    unfold eVar at P
    cases e : eta[i]? with
    | none => rw [e] at P; exact P.elim
    | some o =>
      cases o with
      | none => rw [e] at P; exact P.elim
      | some d =>
        rw [e] at P
        obtain ⟨v, h1, h2⟩ := E.at_ i d e
        exact ⟨v, h1, P.now S v h2⟩
theorem ev_const {e : Expr} {d : D} {v : V} (h : PE X e (tC v)) (r : ∀ rho H, Rep G.K rho H d v) : PEv G X W (eC d) e :=
  PE.weak h fun σ H Q ⟨eta, M, rho, E, S, P⟩ => P.now S v (r rho H)
theorem ev_int {i : Int} {j pos} : PEv G X W (eC (.int i)) (.Constant (.int i) j pos) := ev_const pe_int fun _ _ => by simp [Rep]
theorem ev_bl {b : Bool} {j pos} : PEv G X W (eC (.bl b)) (.Constant (.bool b) j pos) := ev_const pe_bl fun _ _ => by simp [Rep]
theorem ev_non {j pos} : PEv G X W (eC .non) (.Constant .none j pos) := ev_const pe_non fun _ _ => by simp [Rep]
theorem ev_str {x : Str} {j pos} : PEv G X W (eC (.str x)) (.Constant (.str x) j pos) := ev_const pe_str fun _ _ => by simp [Rep]
/-- a global that is known -/
theorem ev_glob {x : Str} {u : Value} {d : D} {v : V} {pos : Pos} (hg : Gl X x) (hm : X.mg x = some u) (r : RelV v u) (hr : ∀ rho H, Rep G.K rho H d v) (hd : (x == ("__debug__" : Str)) = false := by decide) : PEv G X W (eC d) (.Name x pos) :=
  ev_const (pe_glob hg hm r hd) hr
theorem ev_ty {x : Str} {n : String} {pos : Pos} (hg : Gl X x) (hm : X.mg x = none) (hv : bootBuiltins x = some (.type n)) (hn : x ≠ "__name__" := by decide) (hd : (x == ("__debug__" : Str)) = false := by decide) : PEv G X W (eC (.cst (.ty n))) (.Name x pos) :=
  ev_const (v := .ty n) (pe_bltn hg hm hv (by rfl) hn hd) fun _ _ => by simp [Rep]
end

/-! ### two in a row -/
def eBin (f : D → D → Store → Out D) (a b : EvE) : EvE := fun eta M => (a eta M).bind fun x M1 => (b eta M1).bind fun y M2 => f x y M2
def eUn (f : D → Store → Out D) (a : EvE) : EvE := fun eta M => (a eta M).bind fun x M1 => f x M1

/-- an operation on values is what the hand layer's reading asks -/
def OpS (G : Gd) (f : D → D → Store → Out D) (r : R2) : Prop :=
  ∀ (W : WX) (σ : St) (rho : List Addr) (H : Hp) (M : Store) (x y : D) (v w : V) (Q : VK), StR G.K G.T rho H M → Rep G.K rho H x v → Rep G.K rho H y w → Post G W σ rho H (GoodD G.K Q) (f x y M) → r v w H Q
def UnS (G : Gd) (f : D → Store → Out D) (r : V → Hp → VK → Prop) : Prop :=
  ∀ (W : WX) (σ : St) (rho : List Addr) (H : Hp) (M : Store) (x : D) (v : V) (Q : VK), StR G.K G.T rho H M → Rep G.K rho H x v → Post G W σ rho H (GoodD G.K Q) (f x M) → r v H Q

section
variable {G : Gd} {X : Cx} {W : WX}
/-- the reading of two in a row, whatever comes behind -/
theorem tE2 {fa fb : EvE} {α : Type} {g : D → D → Store → Out α} {σ : St} {H : Hp} {rho : List Addr} {eta : Env} {M : Store} {Good : Kont α} (E : EnvR G.K rho H eta σ) (S : StR G.K G.T rho H M)
    (P : Post G W σ rho H Good ((fa eta M).bind fun x M1 => (fb eta M1).bind fun y M2 => g x y M2)) {R : V → V → Hp → Prop}
    (k : ∀ rho2 H2 M2 x y v w, EnvR G.K rho2 H2 eta σ → StR G.K G.T rho2 H2 M2 → Rep G.K rho2 H2 x v → Rep G.K rho2 H2 y w → Post G W σ rho2 H2 Good (g x y M2) → R v w H2) :
    tE G W fa σ H fun v H1 => tE G W fb σ H1 fun w H2 => R v w H2 :=
  ⟨eta, M, rho, E, S, P.bind.imp fun r1 H1 x M1 e1 S1 P1 v rv => ⟨eta, M1, r1, E.mono e1, S1, P1.bind.imp fun r2 H2 y M2 e2 S2 P2 w rw' => k r2 H2 M2 x y v w ((E.mono e1).mono e2) S2 (Rep.mono e2 _ _ rv) rw' P2⟩⟩
theorem ev_bin {op : Operator} {f : D → D → Store → Out D} {r : R2} {fa fb : EvE} {a b : Expr} {pos : Pos} (ho : OpR X (binaryOp op) r) (hs : OpS G f r) (ha : PEv G X W fa a) (hb : PEv G X W fb b) : PEv G X W (eBin f fa fb) (.BinOp a op b pos) :=
  PE.weak (pe_op ho ha hb) fun σ H Q ⟨eta, M, rho, E, S, P⟩ => tE2 E S P fun r2 H2 M2 x y v w _ S2 rx ry P2 => hs W σ r2 H2 M2 x y v w Q S2 rx ry P2
theorem ev_un {op : UnaryOp} {f : D → Store → Out D} {r : V → Hp → VK → Prop} {fa : EvE} {a : Expr} {pos : Pos} (ho : UnR X (unaryOp op) r) (hs : UnS G f r) (ha : PEv G X W fa a) : PEv G X W (eUn f fa) (.UnaryOp op a pos) :=
  PE.weak (pe_un ho ha) fun σ H Q ⟨eta, M, rho, E, S, P⟩ => ⟨eta, M, rho, E, S, P.bind.imp fun r1 H1 x M1 e1 S1 P1 v rv => hs W σ r1 H1 M1 x v Q S1 rv P1⟩
theorem ev_cmp {op : CmpOp} {f : D → D → Store → Out D} {r : R2} {fa fb : EvE} {a b : Expr} {pos : Pos} (ho : OpR X (compareOp op) r) (hs : OpS G f r) (ha : PEv G X W fa a) (hb : PEv G X W fb b)
    (hm : behindInMarks op b = false := by rfl) : PEv G X W (eBin f fa fb) (.Compare a [op] [b] pos) :=
  PE.weak (pe_cmpR ho ha hb hm) fun σ H Q ⟨eta, M, rho, E, S, P⟩ => tE2 E S P fun r2 H2 M2 x y v w _ S2 rx ry P2 => hs W σ r2 H2 M2 x y v w Q S2 rx ry P2
end

/-! ### tests -/
/-- a bool value as a test -/
def asB (x : D) (M : Store) : Out Bool := match x with
  | .bl b => .ok b M
  | _ => .bad
def tOf (f : EvE) : EvT := fun eta M => (f eta M).bind asB
/-- a value's truth -/
def truthD (x : D) (M : Store) : Out Bool := match x with
  | .non => .ok false M
  | .bl b => .ok b M
  | .int i => .ok (i != 0) M
  | .str z => if z.length ≤ cap then .ok ((z.length : Int) != 0) M else .bad
  | .tup ds => .ok (!ds.isEmpty) M
  | .ref n => (match M[n]? with
    | some (.lst ds) => .ok (!ds.isEmpty) M
    | some (.frz ds) => .ok (!ds.isEmpty) M
    | some (.dicK ds) => .ok (!ds.isEmpty) M
    | _ => .bad)
  | .cst _ => .bad
  | .ktp _ => .bad
def tTru (f : EvE) : EvT := fun eta M => (f eta M).bind truthD
def tNt (f : EvT) : EvT := fun eta M => (f eta M).bind fun b M1 => .ok (!b) M1
def tAn (f g : EvT) : EvT := fun eta M => (f eta M).bind fun b M1 => if b = true then g eta M1 else .ok false M1
def tOrr (f g : EvT) : EvT := fun eta M => (f eta M).bind fun b M1 => if b = true then .ok true M1 else g eta M1

section
variable {G : Gd} {X : Cx} {W : WX}
theorem isEmpty_reps {rho : List Addr} {H : Hp} {ds : List D} {vs : List V} (h : Reps G.K rho H ds vs) : vs.isEmpty = ds.isEmpty := by
  cases ds with
  | nil => simp only [Reps] at h; subst h; rfl
  | cons d ds => simp only [Reps] at h; obtain ⟨v, ws, rfl, _⟩ := h; rfl
theorem isEmpty_kv {κ : Type} {rho : List Addr} {H : Hp} {ds : List (κ × D)} {vs : List (κ × V)} (h : RepKV G.K rho H ds vs) : vs.isEmpty = ds.isEmpty := by
  have := h.2.length
  simp at this
  cases ds <;> cases vs <;> simp_all
theorem truthD_ok (hK : X.K = G.K) {σ : St} {rho : List Addr} {H : Hp} {M : Store} {x : D} {v : V} {Q : Bool → Hp → Prop} (S : StR G.K G.T rho H M) (r : Rep G.K rho H x v) (P : Post G W σ rho H (GoodB Q) (truthD x M)) :
    ∃ k, TruV X.K v H k ∧ Q k H := by
  rw [hK]
  cases x with
  | non => simp only [Rep] at r; subst r; exact ⟨false, rfl, P.now S⟩
  | bl b => simp only [Rep] at r; subst r; exact ⟨b, rfl, P.now S⟩
  | int i => simp only [Rep] at r; subst r; exact ⟨_, rfl, P.now S⟩
  | str z =>
    simp only [Rep] at r; subst r
    simp only [truthD] at P
    split at P
    · rename_i h; exact ⟨_, ⟨by rw [← cap_eq]; exact h, rfl⟩, P.now S⟩
    · exact P.elim
  | tup ds =>
    simp only [Rep] at r
    obtain ⟨a, vs, rfl, h1, h2⟩ := r
    exact ⟨_, .inr (.inl ⟨vs, SqT.of h1, rfl⟩), by rw [isEmpty_reps h2]; exact P.now S⟩
  | cst u => exact P.elim
  | ktp u => exact P.elim
  | ref n =>
    simp only [Rep] at r
    obtain ⟨a, rfl, h1⟩ := r
    simp only [truthD] at P
    cases e : M[n]? with
    | none => rw [e] at P; exact P.elim
    | some o =>
      rw [e] at P
      have ro := S.at_ n a o h1 e
      cases o with
      | lst ds => obtain ⟨vs, g1, g2⟩ := ro; exact ⟨_, .inl ⟨vs, SqL.of g1, rfl⟩, by rw [isEmpty_reps g2]; exact P.now S⟩
      | frz ds => obtain ⟨vs, g1, g2⟩ := ro; exact ⟨_, .inl ⟨vs, g1.sq, rfl⟩, by rw [isEmpty_reps g2]; exact P.now S⟩
      | dicK ds => obtain ⟨vs, g1, g2⟩ := ro; exact ⟨_, .inr (.inr ⟨vs, g1, rfl⟩), by rw [isEmpty_kv g2]; exact P.now S⟩
      | dicT ds => exact P.elim
      | ins c fs => exact P.elim
theorem tv_cmp {op : CmpOp} {f : D → D → Store → Out D} {r : R2} {fa fb : EvE} {a b : Expr} {pos : Pos} (ho : OpR X (compareOp op) r) (hs : OpS G f r) (ha : PEv G X W fa a) (hb : PEv G X W fb b)
    (hm : behindInMarks op b = false := by rfl) : PTv G X W (tOf (eBin f fa fb)) (.Compare a [op] [b] pos) :=
  PT.weak (pt_cmpR ho ha hb hm) fun σ H Q ⟨eta, M, rho, E, S, P⟩ => by
    have P' : Post G W σ rho H (GoodB Q) ((fa eta M).bind fun x M1 => (fb eta M1).bind fun y M2 => (f x y M2).bind asB) := by
      have e : (tOf (eBin f fa fb) eta M) = ((fa eta M).bind fun x M1 => (fb eta M1).bind fun y M2 => (f x y M2).bind asB) := by
        unfold tOf eBin
        cases fa eta M <;> simp only [Out.bind]
        rename_i x M1
        cases fb eta M1 <;> simp only [Out.bind]
      rw [e] at P; exact P
    refine tE2 E S P' fun r2 H2 M2 x y v w _ S2 rx ry P2 => hs W σ r2 H2 M2 x y v w _ S2 rx ry ?_
    refine P2.bind.imp fun r3 H3 z M3 e3 S3 P3 u ru => ?_
    cases z with
    | bl b => simp only [Rep] at ru; subst ru; exact ⟨b, rfl, P3.now S3⟩
    | _ => exact P3.elim
/-- any expression whose test is its value's truth -/
theorem tv_val (hK : X.K = G.K) {f : EvE} {e : Expr} (h : PEv G X W f e) (he : ∀ whole, isTrue e X.env whole = (do let v ← whole; standAt e.pos; holding [v] (truthy v)) := by intro _; rfl) : PTv G X W (tTru f) e :=
  PT.weak (pt_truth h he) fun σ H Q ⟨eta, M, rho, E, S, P⟩ => ⟨eta, M, rho, E, S, P.bind.imp fun r1 H1 x M1 e1 S1 P1 v rv => truthD_ok hK S1 rv P1⟩
theorem tv_not {f : EvT} {e : Expr} {pos : Pos} (h : PTv G X W f e) : PTv G X W (tNt f) (.UnaryOp .Not e pos) :=
  PT.weak (pt_not h) fun σ H Q ⟨eta, M, rho, E, S, P⟩ => ⟨eta, M, rho, E, S, P.bind.imp fun r1 H1 b M1 e1 S1 P1 => P1.now S1⟩
theorem wv_and1 {f : EvT} {e : Expr} {pos : Pos} (h : PTv G X W f e) : PWv G X W f (.BoolOp .And [e] pos) := pw_and1 h
theorem wv_or1 {f : EvT} {e : Expr} {pos : Pos} (h : PTv G X W f e) : PWv G X W f (.BoolOp .Or [e] pos) := pw_or1 h
theorem wv_and {f g : EvT} {a b : Expr} {rest : List Expr} {pos : Pos} (ha : PTv G X W f a) (hb : PWv G X W g (.BoolOp .And (b :: rest) pos)) : PWv G X W (tAn f g) (.BoolOp .And (a :: b :: rest) pos) :=
  PW.weak (pw_and ha hb) fun σ H Q ⟨eta, M, rho, E, S, P⟩ => ⟨eta, M, rho, E, S, P.bind.imp fun r1 H1 c M1 e1 S1 P1 => by
    cases c with
    | true => exact ⟨eta, M1, r1, E.mono e1, S1, P1⟩
    | false => exact P1.now S1⟩
theorem wv_or {f g : EvT} {a b : Expr} {rest : List Expr} {pos : Pos} (ha : PTv G X W f a) (hb : PWv G X W g (.BoolOp .Or (b :: rest) pos)) : PWv G X W (tOrr f g) (.BoolOp .Or (a :: b :: rest) pos) :=
  PW.weak (pw_or ha hb) fun σ H Q ⟨eta, M, rho, E, S, P⟩ => ⟨eta, M, rho, E, S, P.bind.imp fun r1 H1 c M1 e1 S1 P1 => by
    cases c with
    | true => exact P1.now S1
    | false => exact ⟨eta, M1, r1, E.mono e1, S1, P1⟩⟩
theorem tv_bool {f : EvT} {e : Expr} (h : PWv G X W f e) : PTv G X W f e := PW.pt h
end

/-! ### bools as values -/
def eNt (f : EvE) : EvE := fun eta M => (f eta M).bind fun x M1 => (truthD x M1).bind fun b M2 => .ok (.bl (!b)) M2
def eAn (f g : EvE) : EvE := fun eta M => (f eta M).bind fun x M1 => (truthD x M1).bind fun b M2 => if b = true then g eta M2 else .ok x M2
def eOrr (f g : EvE) : EvE := fun eta M => (f eta M).bind fun x M1 => (truthD x M1).bind fun b M2 => if b = true then .ok x M2 else g eta M2
def eIf (c : EvT) (f g : EvE) : EvE := fun eta M => (c eta M).bind fun b M1 => if b = true then f eta M1 else g eta M1
section
variable {G : Gd} {X : Cx} {W : WX}
theorem ev_if {c : EvT} {f g : EvE} {ec ea eb : Expr} {pos : Pos} (hc : PTv G X W c ec) (ha : PEv G X W f ea) (hb : PEv G X W g eb) : PEv G X W (eIf c f g) (.IfExp ec ea eb pos) :=
  PE.weak (pe_ifExp hc ha hb) fun σ H Q ⟨eta, M, rho, E, S, P⟩ => ⟨eta, M, rho, E, S, P.bind.imp fun r1 H1 b M1 e1 S1 P1 => by
    cases b with
    | true => exact ⟨eta, M1, r1, E.mono e1, S1, P1⟩
    | false => exact ⟨eta, M1, r1, E.mono e1, S1, P1⟩⟩
end
end Ev

/-! Ev, part C: operations on values. -/
namespace Ev
open PySem L2

/-! ### values as the library's data -/
mutual
def pyD : D → Option PyData
  | .non => some .none
  | .bl b => some (.bool b)
  | .int i => some (.int i)
  | .str x => some (.str x)
  | .tup ds => (pyDs ds).map .tuple
  | .ref _ => none
  | .cst _ => none
  | .ktp ds => (pyDs ds).map .tuple
def pyDs : List D → Option (List PyData)
  | [] => some []
  | d :: ds => match pyD d, pyDs ds with
    | some p, some ps => some (p :: ps)
    | _, _ => none
end
/-- every member by f -/
def allBy (f : D → Option PyData) : List D → Option (List PyData)
  | [] => some []
  | d :: ds => match f d, allBy f ds with
    | some p, some ps => some (p :: ps)
    | _, _ => none
def toPy (M : Store) : Nat → D → Option PyData
  | 0, d => pyD d
  | n + 1, d => match pyD d with
    | some p => some p
    | none => match d with
      | .ref i => (match M[i]? with
        | some (.lst ds) => (allBy (toPy M n) ds).map .list
        | some (.frz ds) => (allBy (toPy M n) ds).map .list
        | _ => none)
      | .tup ds => (allBy (toPy M n) ds).map .tuple
      | _ => none

section
variable {K : PySem.W.Frag} {T rho : List Addr} {H : Hp} {M : Store}
mutual
theorem pyD_dp : ∀ (d : D) (p : PyData) (v : V), pyD d = some p → Rep K rho H d v → Dp K H v p
  | .non, p, v, h, r => by simp only [pyD, Option.some.injEq] at h; simp only [Rep] at r; subst h r; exact .non
  | .bl b, p, v, h, r => by simp only [pyD, Option.some.injEq] at h; simp only [Rep] at r; subst h r; exact .bl b
  | .int i, p, v, h, r => by simp only [pyD, Option.some.injEq] at h; simp only [Rep] at r; subst h r; exact .int i
  | .str x, p, v, h, r => by simp only [pyD, Option.some.injEq] at h; simp only [Rep] at r; subst h r; exact .str x
  | .ref _, p, v, h, _ => by simp [pyD] at h
  | .cst _, p, v, h, _ => by simp [pyD] at h
  | .tup ds, p, v, h, r => by
    simp only [pyD, Option.map_eq_some_iff] at h
    obtain ⟨ps, h1, rfl⟩ := h
    simp only [Rep] at r
    obtain ⟨a, vs, rfl, h2, h3⟩ := r
    exact .tup (SqT.of h2) (pyDs_dp ds ps vs h1 h3)
  | .ktp ds, p, v, h, r => by
    simp only [pyD, Option.map_eq_some_iff] at h
    obtain ⟨ps, h1, rfl⟩ := h
    simp only [Rep] at r
    obtain ⟨a, vs, rfl, h2, h3⟩ := r
    exact .tup h2 (pyDs_dp ds ps vs h1 h3)
theorem pyDs_dp : ∀ (ds : List D) (ps : List PyData) (vs : List V), pyDs ds = some ps → Reps K rho H ds vs → DpAll K H vs ps
  | [], ps, vs, h, r => by simp only [pyDs, Option.some.injEq] at h; simp only [Reps] at r; subst h r; exact .nil
  | d :: ds, ps, vs, h, r => by
    simp only [Reps] at r
    obtain ⟨v, ws, rfl, r1, r2⟩ := r
    simp only [pyDs] at h
    split at h
    · rename_i p qs h1 h2
      simp only [Option.some.injEq] at h
      subst h
      exact .cons (pyD_dp d p v h1 r1) (pyDs_dp ds qs ws h2 r2)
    · cases h
end
theorem allBy_dp {f : D → Option PyData} (hf : ∀ d p v, f d = some p → Rep K rho H d v → Dp K H v p) : ∀ (ds : List D) (ps : List PyData) (vs : List V), allBy f ds = some ps → Reps K rho H ds vs → DpAll K H vs ps
  | [], ps, vs, h, r => by simp only [allBy, Option.some.injEq] at h; simp only [Reps] at r; subst h r; exact .nil
  | d :: ds, ps, vs, h, r => by
    simp only [Reps] at r
    obtain ⟨v, ws, rfl, r1, r2⟩ := r
    simp only [allBy] at h
    split at h
    · rename_i p qs h1 h2
      simp only [Option.some.injEq] at h
      subst h
      exact .cons (hf d p v h1 r1) (allBy_dp hf ds qs ws h2 r2)
    · cases h
theorem toPy_dp (S : StR K T rho H M) : ∀ (n : Nat) (d : D) (p : PyData) (v : V), toPy M n d = some p → Rep K rho H d v → Dp K H v p
  | 0, d, p, v, h, r => pyD_dp d p v (by simpa only [toPy] using h) r
  | n + 1, d, p, v, h, r => by
    simp only [toPy] at h
    split at h
    · rename_i q hq
      simp only [Option.some.injEq] at h
      subst h
      exact pyD_dp d q v hq r
    · split at h
      · rename_i i
        simp only [Rep] at r
        obtain ⟨a, rfl, ha⟩ := r
        split at h
        · rename_i ds hm
          obtain ⟨vs, g1, g2⟩ := S.at_ _ a _ ha hm
          simp only [Option.map_eq_some_iff] at h
          obtain ⟨ps, h1, rfl⟩ := h
          exact .lst (SqL.of g1) (allBy_dp (toPy_dp S n) ds ps vs h1 g2)
        · rename_i ds hm
          obtain ⟨vs, g1, g2⟩ := S.at_ _ a _ ha hm
          simp only [Option.map_eq_some_iff] at h
          obtain ⟨ps, h1, rfl⟩ := h
          exact .lst g1.sq (allBy_dp (toPy_dp S n) ds ps vs h1 g2)
        · cases h
      · rename_i ds _
        simp only [Rep] at r
        obtain ⟨a, vs, rfl, h2, h3⟩ := r
        simp only [Option.map_eq_some_iff] at h
        obtain ⟨ps, h1, rfl⟩ := h
        exact .tup (SqT.of h2) (allBy_dp (toPy_dp S n) ds ps vs h1 h3)
      · cases h
end

/-! ### arithmetic -/
def mulOk (i j : Int) : Bool := decide (-(2 ^ 64) < i ∧ i < 2 ^ 64) || decide (-(2 ^ 64) < j ∧ j < 2 ^ 64) || decide (i.natAbs.log2 + j.natAbs.log2 < 1000000)
def dAdd (x y : D) (M : Store) : Out D := match x, y with
  | .int i, .int j => .ok (.int (i + j)) M
  | .str a, .str b => if a.length + b.length ≤ cap then .ok (.str (a ++ b)) M else .bad
  | .tup as, .tup bs => if as.length + bs.length ≤ cap then .ok (.tup (as ++ bs)) M else .bad
  | .ref m, .ref n => (match M[m]?, M[n]? with
    | some (.lst as), some (.lst bs) => if as.length + bs.length ≤ cap then .ok (.ref M.length) (M ++ [.lst (as ++ bs)]) else .bad
    | _, _ => .bad)
  | _, _ => .bad
def dSub (x y : D) (M : Store) : Out D := match x, y with
  | .int i, .int j => .ok (.int (i - j)) M
  | _, _ => .bad
def dMul (x y : D) (M : Store) : Out D := match x, y with
  | .int i, .int j => if mulOk i j = true then .ok (.int (i * j)) M else .bad
  | .ref n, .int k => (match M[n]? with
    | some (.lst as) => if -(2 ^ 63) ≤ k ∧ k < 2 ^ 63 ∧ as.length * k.toNat ≤ cap then .ok (.ref M.length) (M ++ [.lst (List.replicate k.toNat as).flatten]) else .bad
    | _ => .bad)
  | .tup as, .int k => if as ≠ [] ∧ 2 ≤ k ∧ k ≤ 1000 ∧ as.length ≤ 1000 then .ok (.tup (List.replicate k.toNat as).flatten) M else .bad
  | _, _ => .bad
def dFdiv (x y : D) (M : Store) : Out D := match x, y with
  | .int i, .int j => if 0 < j ∧ j.natAbs.log2 < 9000 then .ok (.int (i / j)) M else .bad
  | _, _ => .bad
def dMod (x y : D) (M : Store) : Out D := match x, y with
  | .int i, .int j => if 0 < j then .ok (.int (i % j)) M else .bad
  | _, _ => .bad
def dPow (x y : D) (M : Store) : Out D := match x, y with
  | .int i, .int j => if 0 ≤ j ∧ j ≤ 1000000 ∧ i.natAbs < 2 ^ 64 then .ok (.int (i ^ j.toNat)) M else .bad
  | _, _ => .bad
def dNeg (x : D) (M : Store) : Out D := match x with
  | .int i => .ok (.int (-i)) M
  | _ => .bad

section
variable {G : Gd} {X : Cx} {W : WX}
/-- a new list -/
theorem new_lst {σ : St} {rho : List Addr} {H : Hp} {M : Store} {Q : VK} {ds : List D} {vs : List V} (S : StR G.K G.T rho H M) (r : Reps G.K rho H ds vs)
    (P : Post G W σ rho H (GoodD G.K Q) (.ok (.ref M.length) (M ++ [.lst ds]))) : ∀ p, H p = none → Q (.ref p) (upd H p (.lst vs)) := fun p hp => by
  have E : Ext rho H (rho ++ [p]) (upd H p (.lst vs)) := (Ext.laid hp).trans Ext.grow
  refine P (rho ++ [p]) _ E (S.alloc hp ⟨vs, upd_same, Reps.mono E _ _ r⟩) (.ref p) ?_
  simp only [Rep]
  exact ⟨p, rfl, by rw [← S.len, List.getElem?_append_right (Nat.le_refl _)]; simp⟩
/-- a new tuple -/
theorem new_tup {σ : St} {rho : List Addr} {H : Hp} {M : Store} {Q : VK} {ds : List D} {vs : List V} (S : StR G.K G.T rho H M) (r : Reps G.K rho H ds vs)
    (P : Post G W σ rho H (GoodD G.K Q) (.ok (.tup ds) M)) : ∀ p, H p = none → Q (.ref p) (upd H p (.tup vs)) := fun p hp => by
  have E : Ext rho H rho (upd H p (.tup vs)) := Ext.laid hp
  refine P rho _ E (S.laid hp) (.ref p) ?_
  simp only [Rep]
  exact ⟨p, vs, rfl, upd_same, Reps.mono E _ _ r⟩
theorem rep_ref {K : PySem.W.Frag} {rho : List Addr} {H : Hp} {n : Nat} {v : V} (r : Rep K rho H (.ref n) v) : ∃ a, v = .ref a ∧ rho[n]? = some a := by simpa only [Rep] using r
theorem rep_tup {K : PySem.W.Frag} {rho : List Addr} {H : Hp} {ds : List D} {v : V} (r : Rep K rho H (.tup ds) v) : ∃ a vs, v = .ref a ∧ H a = some (.tup vs) ∧ Reps K rho H ds vs := by simpa only [Rep] using r
theorem rep_int {K : PySem.W.Frag} {rho : List Addr} {H : Hp} {i : Int} {v : V} (r : Rep K rho H (.int i) v) : v = .int i := by simpa only [Rep] using r
theorem rep_str {K : PySem.W.Frag} {rho : List Addr} {H : Hp} {i : Str} {v : V} (r : Rep K rho H (.str i) v) : v = .str i := by simpa only [Rep] using r
theorem rep_bl {K : PySem.W.Frag} {rho : List Addr} {H : Hp} {i : Bool} {v : V} (r : Rep K rho H (.bl i) v) : v = .bl i := by simpa only [Rep] using r
theorem rep_non {K : PySem.W.Frag} {rho : List Addr} {H : Hp} {v : V} (r : Rep K rho H .non v) : v = .non := by simpa only [Rep] using r
theorem rep_cst {K : PySem.W.Frag} {rho : List Addr} {H : Hp} {u v : V} (r : Rep K rho H (.cst u) v) : v = u := by simpa only [Rep] using r
theorem good_int {σ : St} {rho : List Addr} {H : Hp} {M : Store} {Q : VK} {i : Int} (S : StR G.K G.T rho H M) (P : Post G W σ rho H (GoodD G.K Q) (.ok (.int i) M)) : Q (.int i) H := P.now S _ (by simp [Rep])
theorem good_bl {σ : St} {rho : List Addr} {H : Hp} {M : Store} {Q : VK} {i : Bool} (S : StR G.K G.T rho H M) (P : Post G W σ rho H (GoodD G.K Q) (.ok (.bl i) M)) : Q (.bl i) H := P.now S _ (by simp [Rep])
theorem good_str {σ : St} {rho : List Addr} {H : Hp} {M : Store} {Q : VK} {i : Str} (S : StR G.K G.T rho H M) (P : Post G W σ rho H (GoodD G.K Q) (.ok (.str i) M)) : Q (.str i) H := P.now S _ (by simp [Rep])
theorem good_non {σ : St} {rho : List Addr} {H : Hp} {M : Store} {Q : VK} (S : StR G.K G.T rho H M) (P : Post G W σ rho H (GoodD G.K Q) (.ok .non M)) : Q .non H := P.now S _ (by simp [Rep])

def rAddV (K : PySem.W.Frag) : R2 := fun x y H Q => (rI0 (fun i j => .int (i + j)) x y H Q ∨ (∃ i j, x = .str i ∧ y = .str j ∧ i.length + j.length ≤ sizeLine ∧ Q (.str (i ++ j)) H)) ∨ (rCatA K x y H Q ∨ rCat x y H Q)
theorem op_addV : OpR X (binaryOp .Add) (rAddV X.K) := (op_add.or op_add_str).or (op_catA.or op_cat)
theorem ds_add (hK : X.K = G.K) : OpS G dAdd (rAddV X.K) := by
  rw [hK]
  intro W σ rho H M x y v w Q S rx ry P
  cases x <;> cases y <;> try exact P.elim
  · cases rep_int rx; cases rep_int ry
    exact .inl (.inl ⟨_, _, rfl, rfl, good_int S P⟩)
  · cases rep_str rx; cases rep_str ry
    simp only [dAdd] at P
    split at P
    · rename_i h; exact .inl (.inr ⟨_, _, rfl, rfl, by rw [← cap_eq]; exact h, good_str S P⟩)
    · exact P.elim
  · obtain ⟨a, vs, rfl, h1, h2⟩ := rep_tup rx
    obtain ⟨b, ws, rfl, h3, h4⟩ := rep_tup ry
    simp only [dAdd] at P
    split at P
    · rename_i h
      refine .inr (.inl ⟨a, b, vs, ws, rfl, rfl, SqT.of h1, SqT.of h3, by rw [h2.length, h4.length, ← cap_eq]; exact h, fun e => ?_, fun _ e => ?_, fun _ _ => ?_⟩)
      · subst e
        have := h2.length; simp at this
        have e2 := List.eq_nil_of_length_eq_zero this.symm
        subst e2
        refine P.now S _ ?_
        simp only [Rep]; exact ⟨b, ws, rfl, h3, h4⟩
      · subst e
        have := h4.length; simp at this
        have e2 := List.eq_nil_of_length_eq_zero this.symm
        subst e2
        refine P.now S _ ?_
        simp only [Rep, List.append_nil]; exact ⟨a, vs, rfl, h1, h2⟩
      · exact new_tup S (h2.append h4) P
    · exact P.elim
  · obtain ⟨a, rfl, ha⟩ := rep_ref rx
    obtain ⟨b, rfl, hb⟩ := rep_ref ry
    simp only [dAdd] at P
    split at P
    · rename_i as bs e1 e2
      split at P
      · rename_i h
        obtain ⟨vs, g1, g2⟩ := S.at_ _ a _ ha e1
        obtain ⟨ws, g3, g4⟩ := S.at_ _ b _ hb e2
        exact .inr (.inr ⟨a, b, vs, ws, rfl, rfl, g1, g3, by rw [g2.length, g4.length, ← cap_eq]; exact h, new_lst S (g2.append g4) P⟩)
      · exact P.elim
    · exact P.elim
def rSubV : R2 := rI0 fun i j => .int (i - j)
theorem ds_sub : OpS G dSub rSubV := by
  intro W σ rho H M x y v w Q S rx ry P
  cases x <;> cases y <;> try exact P.elim
  cases rep_int rx; cases rep_int ry
  exact ⟨_, _, rfl, rfl, good_int S P⟩
def rMulV (K : PySem.W.Frag) : R2 := fun x y H Q => (rI CMul (fun i j => .int (i * j)) x y H Q ∨ rI CMulW (fun i j => .int (i * j)) x y H Q) ∨ (rRep x y H Q ∨ rRepT K x y H Q)
theorem op_mulV : OpR X (binaryOp .Mult) (rMulV X.K) := (op_mul.or op_mulW).or (op_rep.or op_repT)
theorem ds_mul (hK : X.K = G.K) : OpS G dMul (rMulV X.K) := by
  rw [hK]
  intro W σ rho H M x y v w Q S rx ry P
  cases x <;> cases y <;> try exact P.elim
  · cases rep_int rx; cases rep_int ry
    simp only [dMul] at P
    split at P
    · rename_i h
      simp only [mulOk, Bool.or_eq_true, decide_eq_true_eq] at h
      rcases h with (h | h) | h
      · exact .inl (.inl ⟨_, _, rfl, rfl, .inl h, good_int S P⟩)
      · exact .inl (.inl ⟨_, _, rfl, rfl, .inr h, good_int S P⟩)
      · exact .inl (.inr ⟨_, _, rfl, rfl, h, good_int S P⟩)
    · exact P.elim
  · cases rep_int ry
    obtain ⟨a, vs, rfl, h1, h2⟩ := rep_tup rx
    simp only [dMul] at P
    split at P
    · rename_i h
      refine .inr (.inr ⟨a, _, vs, rfl, rfl, SqT.of h1, fun e => h.1 ?_, h.2.1, h.2.2.1, by rw [h2.length]; exact h.2.2.2, new_tup S (h2.rep _) P⟩)
      subst e
      have := h2.length; simp at this
      exact List.eq_nil_of_length_eq_zero this.symm
    · exact P.elim
  · cases rep_int ry
    obtain ⟨a, rfl, ha⟩ := rep_ref rx
    simp only [dMul] at P
    split at P
    · rename_i as e1
      split at P
      · rename_i h
        obtain ⟨vs, g1, g2⟩ := S.at_ _ a _ ha e1
        exact .inr (.inl ⟨a, _, vs, rfl, rfl, g1, h.1, h.2.1, by rw [g2.length, ← cap_eq]; exact h.2.2, new_lst S (g2.rep _) P⟩)
      · exact P.elim
    · exact P.elim
theorem ds_fdiv : OpS G dFdiv (rI CDivW fun i j => .int (i / j)) := by
  intro W σ rho H M x y v w Q S rx ry P
  cases x <;> cases y <;> try exact P.elim
  cases rep_int rx; cases rep_int ry
  simp only [dFdiv] at P
  split at P
  · rename_i h; exact ⟨_, _, rfl, rfl, h, good_int S P⟩
  · exact P.elim
theorem ds_mod : OpS G dMod (rI (fun _ j => 0 < j) fun i j => .int (i % j)) := by
  intro W σ rho H M x y v w Q S rx ry P
  cases x <;> cases y <;> try exact P.elim
  cases rep_int rx; cases rep_int ry
  simp only [dMod] at P
  split at P
  · rename_i h; exact ⟨_, _, rfl, rfl, h, good_int S P⟩
  · exact P.elim
theorem ds_pow : OpS G dPow (rI CPow fun i j => .int (i ^ j.toNat)) := by
  intro W σ rho H M x y v w Q S rx ry P
  cases x <;> cases y <;> try exact P.elim
  cases rep_int rx; cases rep_int ry
  simp only [dPow] at P
  split at P
  · rename_i h; exact ⟨_, _, rfl, rfl, h, good_int S P⟩
  · exact P.elim
theorem ds_neg : UnS G dNeg (rU fun i => .int (-i)) := by
  intro W σ rho H M x v Q S rx P
  cases x <;> try exact P.elim
  cases rep_int rx
  exact ⟨_, rfl, good_int S P⟩
end

/-! ### comparisons -/
def dCmp (p : Int → Int → Bool) (x y : D) (M : Store) : Out D := match x, y with
  | .int i, .int j => .ok (.bl (p i j)) M
  | _, _ => .bad
def dLt : D → D → Store → Out D := dCmp fun i j => decide (i < j)
def dLe : D → D → Store → Out D := dCmp fun i j => decide (i ≤ j)
def dGt : D → D → Store → Out D := dCmp fun i j => decide (j < i)
def dGe : D → D → Store → Out D := dCmp fun i j => decide (j ≤ i)
def dEq (neg : Bool) (x y : D) (M : Store) : Out D := match toPy M 6 x, toPy M 6 y with
  | some a, some b => if a.canLay0 = true ∧ b.canLay0 = true ∧ min a.depth b.depth ≤ 150 then .ok (.bl (if neg then !PyData.eqv a b else PyData.eqv a b)) M else .bad
  | _, _ => .bad
/-- is None, is a bool -/
def dIs (neg : Bool) (x y : D) (M : Store) : Out D := match x, y with
  | .non, .non => .ok (.bl (!neg)) M
  | .bl _, .non | .int _, .non | .str _, .non | .tup _, .non | .ref _, .non => .ok (.bl neg) M
  | .bl a, .bl b => .ok (.bl (if neg then !decide (a = b) else decide (a = b))) M
  | _, _ => .bad
/-- a dict's key, the keys being ints and texts -/
def keyK : D → Option Key
  | .int i => some (Sum.inl i)
  | .str x => some (Sum.inr x)
  | _ => none
def keysT : List D → Option (List Key)
  | [] => some []
  | d :: ds => match keyK d, keysT ds with
    | some k, some ks => some (k :: ks)
    | _, _ => none
/-- .. being tuples of such -/
def keyT : D → Option (List Key)
  | .tup ds => keysT ds
  | _ => none
def findK {κ : Type} [DecidableEq κ] (kvs : List (κ × D)) (k : κ) : Option D := match kvs with
  | [] => none
  | (k', d) :: r => if k' = k then some d else findK r k
def dIn (neg : Bool) (x y : D) (M : Store) : Out D :=
  let out (b : Bool) : Out D := .ok (.bl (if neg then !b else b)) M
  match y with
  | .str t => (match x with
    | .str z => out (!(Builtin.Str.occurrences t z 0 t.length 1).isEmpty)
    | _ => .bad)
  | .tup _ | .ktp _ => (match toPy M 6 x, toPy M 6 y with
    | some d, some (.tuple ds) => if d.canLay0 = true ∧ PyData.canLayAll0 ds = true ∧ min (PyData.depthAll ds) d.depth ≤ 150 then out (ds.any fun z => PyData.eqv z d) else .bad
    | _, _ => .bad)
  | .ref n => (match M[n]? with
    | some (.dicK kvs) => (match keyK x with
      | some k => out (findK kvs k).isSome
      | none => .bad)
    | some (.dicT kvs) => (match keyT x with
      | some k => out (findK kvs k).isSome
      | none => .bad)
    | _ => (match toPy M 6 x, toPy M 6 y with
      | some d, some (.list ds) => if d.canLay0 = true ∧ PyData.canLayAll0 ds = true ∧ min (PyData.depthAll ds) d.depth ≤ 150 then out (ds.any fun z => PyData.eqv z d) else .bad
      | _, _ => .bad))
  | _ => .bad

section
variable {G : Gd} {X : Cx} {W : WX}
theorem ds_cmp (p : Int → Int → Bool) : OpS G (dCmp p) (rI0 fun i j => .bl (p i j)) := by
  intro W σ rho H M x y v w Q S rx ry P
  cases x <;> cases y <;> try exact P.elim
  cases rep_int rx; cases rep_int ry
  exact ⟨_, _, rfl, rfl, good_bl S P⟩
def rEqM (K : PySem.W.Frag) (neg : Bool) : R2 := fun x y H Q => ∃ d e, Dp K H x d ∧ Dp K H y e ∧ d.canLay0 = true ∧ e.canLay0 = true ∧ min d.depth e.depth ≤ 150 ∧ Q (.bl (if neg then !PyData.eqv d e else PyData.eqv d e)) H
theorem op_eqM (hu : X.A.units + 160 < cLine) : OpR X (compareOp .Eq) (rEqM X.K false) := by
  intro pins s σ H x y v u Q I rx ry ⟨d, e, hd, he, sd, se, hm, q⟩
  obtain ⟨as, r1⟩ := Dp.reads I d x v hd rx
  obtain ⟨bs, r2⟩ := Dp.reads I e y u he ry
  exact SeqAt.compareEq_reads r1 r2 sd se (by omega) ⟨.bl _, H, I, rfl, q⟩
theorem op_neM (hu : X.A.units + 160 < cLine) : OpR X (compareOp .NotEq) (rEqM X.K true) := by
  intro pins s σ H x y v u Q I rx ry ⟨d, e, hd, he, sd, se, hm, q⟩
  obtain ⟨as, r1⟩ := Dp.reads I d x v hd rx
  obtain ⟨bs, r2⟩ := Dp.reads I e y u he ry
  exact SeqAt.compareNe_reads r1 r2 sd se (by omega) ⟨.bl _, H, I, rfl, q⟩
theorem ds_eq (hK : X.K = G.K) (neg : Bool) : OpS G (dEq neg) (rEqM X.K neg) := by
  rw [hK]
  intro W σ rho H M x y v w Q S rx ry P
  simp only [dEq] at P
  split at P
  · rename_i a b e1 e2
    split at P
    · rename_i h
      exact ⟨a, b, toPy_dp S 6 x a v e1 rx, toPy_dp S 6 y b w e2 ry, h.1, h.2.1, h.2.2, good_bl S P⟩
    · exact P.elim
  · exact P.elim
def rIsV (neg : Bool) : R2 := fun x y H Q => (y = .non ∧ Q (.bl (if neg then !decide (x = .non) else decide (x = .non))) H) ∨ (∃ a b : Bool, x = .bl a ∧ y = .bl b ∧ Q (.bl (if neg then !decide (a = b) else decide (a = b))) H)
theorem op_isV : OpR X (compareOp .Is) (rIsV false) := op_isN.or op_is_bl
theorem op_isnotV : OpR X (compareOp .IsNot) (rIsV true) := op_notN.or op_isnot_bl
theorem ds_is (neg : Bool) : OpS G (dIs neg) (rIsV neg) := by
  intro W σ rho H M x y v w Q S rx ry P
  cases y with
  | non =>
    cases rep_non ry
    cases x with
    | non => cases rep_non rx; refine .inl ⟨rfl, ?_⟩; have := good_bl S P; cases neg <;> simpa using this
    | bl b => cases rep_bl rx; refine .inl ⟨rfl, ?_⟩; have := good_bl S P; cases neg <;> simpa using this
    | int b => cases rep_int rx; refine .inl ⟨rfl, ?_⟩; have := good_bl S P; cases neg <;> simpa using this
    | str b => cases rep_str rx; refine .inl ⟨rfl, ?_⟩; have := good_bl S P; cases neg <;> simpa using this
    | tup b => obtain ⟨a, vs, rfl, _⟩ := rep_tup rx; refine .inl ⟨rfl, ?_⟩; have := good_bl S P; cases neg <;> simpa using this
    | ref b => obtain ⟨a, rfl, _⟩ := rep_ref rx; refine .inl ⟨rfl, ?_⟩; have := good_bl S P; cases neg <;> simpa using this
    | cst b => exact P.elim
    | ktp b => exact P.elim
  | bl b =>
    cases rep_bl ry
    cases x <;> try exact P.elim
    cases rep_bl rx
    exact .inr ⟨_, _, rfl, rfl, good_bl S P⟩
  | _ => cases x <;> exact P.elim

/-! keys -/
theorem keyK_rep {K : PySem.W.Frag} {rho : List Addr} {H : Hp} {d : D} {k : Key} {v : V} (h : keyK d = some k) (r : Rep K rho H d v) : v = kV k := by
  cases d with
  | int i => simp only [keyK, Option.some.injEq] at h; cases rep_int r; subst h; rfl
  | str i => simp only [keyK, Option.some.injEq] at h; cases rep_str r; subst h; rfl
  | _ => simp [keyK] at h
theorem keysT_rep {K : PySem.W.Frag} {rho : List Addr} {H : Hp} : ∀ {ds : List D} {ks : List Key} {vs : List V}, keysT ds = some ks → Reps K rho H ds vs → vs = ks.map kV
  | [], ks, vs, h, r => by simp only [keysT, Option.some.injEq] at h; simp only [Reps] at r; subst h r; rfl
  | d :: ds, ks, vs, h, r => by
    simp only [Reps] at r
    obtain ⟨v, ws, rfl, r1, r2⟩ := r
    simp only [keysT] at h
    split at h
    · rename_i k ks' h1 h2
      simp only [Option.some.injEq] at h
      subst h
      rw [keyK_rep h1 r1, keysT_rep h2 r2]; rfl
    · cases h
theorem findK_val {κ : Type} [DecidableEq κ] {K : PySem.W.Frag} {rho : List Addr} {H : Hp} : ∀ {kvs : List (κ × D)} {vs : List (κ × V)}, RepKV K rho H kvs vs → ∀ k, (findK kvs k = none ∧ valV vs k = none) ∨ ∃ d v, findK kvs k = some d ∧ valV vs k = some v ∧ Rep K rho H d v
  | [], vs, h, k => by
    have := h.1; simp at this
    cases vs with
    | nil => exact .inl ⟨rfl, rfl⟩
    | cons _ _ => simp at this
  | (k', d) :: r, vs, h, k => by
    obtain ⟨h1, h2⟩ := h
    cases vs with
    | nil => simp at h1
    | cons p vs =>
      obtain ⟨k2, v⟩ := p
      simp only [List.map_cons, List.cons.injEq] at h1
      simp only [List.map_cons, Reps] at h2
      obtain ⟨v', ws, e, r1, r2⟩ := h2
      cases e
      obtain ⟨e1, e2⟩ := h1
      subst e1
      by_cases hk : k' = k
      · subst hk
        right
        exact ⟨d, v, by simp [findK], by simp [valV], r1⟩
      · rcases findK_val (kvs := r) (vs := vs) ⟨e2, r2⟩ k with ⟨a1, a2⟩ | ⟨d', w, a1, a2, a3⟩
        · left; exact ⟨by simp [findK, hk, a1], by unfold valV at a2 ⊢; rw [List.find?_cons_of_neg (by simp [hk])]; exact a2⟩
        · right; exact ⟨d', w, by simp [findK, hk, a1], by unfold valV at a2 ⊢; rw [List.find?_cons_of_neg (by simp [hk])]; exact a2, a3⟩
theorem findK_isSome {κ : Type} [DecidableEq κ] {K : PySem.W.Frag} {rho : List Addr} {H : Hp} {kvs : List (κ × D)} {vs : List (κ × V)} (h : RepKV K rho H kvs vs) (k : κ) : (valV vs k).isSome = (findK kvs k).isSome := by
  rcases findK_val h k with ⟨a1, a2⟩ | ⟨d, v, a1, a2, _⟩ <;> rw [a1, a2] <;> rfl
end
end Ev

/-! Ev, part D: in, subscripts, slices, stores, displays. -/
namespace Ev
open PySem L2

section
variable {G : Gd} {X : Cx} {W : WX}
/-! ### in -/
def rInM (K : PySem.W.Frag) (neg : Bool) : R2 := fun x y H Q =>
  ((∃ i j, x = .str i ∧ y = .str j ∧ Q (.bl (if neg then !(!(Builtin.Str.occurrences j i 0 j.length 1).isEmpty) else (!(Builtin.Str.occurrences j i 0 j.length 1).isEmpty))) H) ∨
  (∃ d ds, Dp K H x d ∧ Dp K H y (.list ds) ∧ d.canLay0 = true ∧ PyData.canLayAll0 ds = true ∧ min (PyData.depthAll ds) d.depth ≤ 150 ∧ Q (.bl (if neg then !(ds.any fun z => PyData.eqv z d) else ds.any fun z => PyData.eqv z d)) H)) ∨
  ((∃ d ds, Dp K H x d ∧ Dp K H y (.tuple ds) ∧ d.canLay0 = true ∧ PyData.canLayAll0 ds = true ∧ min (PyData.depthAll ds) d.depth ≤ 150 ∧ Q (.bl (if neg then !(ds.any fun z => PyData.eqv z d) else ds.any fun z => PyData.eqv z d)) H) ∨
  (∃ a r, y = .ref a ∧ DGet H a x r ∧ Q (.bl (if neg then !r.isSome else r.isSome)) H))
theorem op_inM (hu : X.A.units + 160 < cLine) : OpR X (compareOp .In) (rInM X.K false) := by
  refine (op_in_str.or ?_).or (OpR.or ?_ ?_)
  · intro pins s σ H x y v u Q I rx ry ⟨d, ds, hd, he, sd, se, hm, q⟩
    obtain ⟨as, r1⟩ := Dp.reads I d x v hd rx
    obtain ⟨bs, r2⟩ := Dp.reads I (.list ds) y u he ry
    exact SeqAt.in_list_reads r2 r1 se sd (by omega) ⟨.bl _, H, I, rfl, q⟩
  · intro pins s σ H x y v u Q I rx ry ⟨d, ds, hd, he, sd, se, hm, q⟩
    obtain ⟨as, r1⟩ := Dp.reads I d x v hd rx
    obtain ⟨bs, r2⟩ := Dp.reads I (.tuple ds) y u he ry
    exact SeqAt.in_tuple_reads r2 r1 se sd (by omega) ⟨.bl _, H, I, rfl, q⟩
  · intro pins s σ H x y v u Q I rx ry ⟨a, r, hy, g, q⟩
    subst hy
    obtain rfl : u = Value.ref a := ry
    exact d_in (by omega) I g rx fun s3 I3 => ⟨.bl _, H, I3, rfl, q⟩
theorem op_notInM (hu : X.A.units + 160 < cLine) : OpR X (compareOp .NotIn) (rInM X.K true) := by
  refine (op_notin_str.or ?_).or (OpR.or ?_ ?_)
  · intro pins s σ H x y v u Q I rx ry ⟨d, ds, hd, he, sd, se, hm, q⟩
    obtain ⟨as, r1⟩ := Dp.reads I d x v hd rx
    obtain ⟨bs, r2⟩ := Dp.reads I (.list ds) y u he ry
    exact SeqAt.notIn_list_reads r2 r1 se sd (by omega) ⟨.bl _, H, I, rfl, q⟩
  · intro pins s σ H x y v u Q I rx ry ⟨d, ds, hd, he, sd, se, hm, q⟩
    obtain ⟨as, r1⟩ := Dp.reads I d x v hd rx
    obtain ⟨bs, r2⟩ := Dp.reads I (.tuple ds) y u he ry
    exact SeqAt.notIn_tuple_reads r2 r1 se sd (by omega) ⟨.bl _, H, I, rfl, q⟩
  · intro pins s σ H x y v u Q I rx ry ⟨a, r, hy, g, q⟩
    subst hy
    obtain rfl : u = Value.ref a := ry
    exact d_notIn (by omega) I g rx fun s3 I3 => ⟨.bl _, H, I3, rfl, q⟩

/-- the key of a dict, and what stands there -/
def dictAt (M : Store) (n : Nat) (y : D) : Option (Option D) := match M[n]? with
  | some (.dicK kvs) => (match keyK y with
    | some k => some (findK kvs k)
    | none => none)
  | some (.dicT kvs) => (match keyT y with
    | some k => some (findK kvs k)
    | none => none)
  | _ => none
theorem keyT_rep {K : PySem.W.Frag} {rho : List Addr} {H : Hp} {d : D} {k : List Key} {v : V} (h : keyT d = some k) (r : Rep K rho H d v) : ∃ b, v = .ref b ∧ H b = some (.tup (k.map kV)) := by
  cases d <;> simp only [keyT] at h <;> try cases h
  obtain ⟨a, vs, rfl, h1, h2⟩ := rep_tup r
  rw [keysT_rep h h2] at h1
  exact ⟨a, rfl, h1⟩
theorem dictAt_rep {T : List Addr} {K : PySem.W.Frag} {rho : List Addr} {H : Hp} {M : Store} {n : Nat} {y : D} {o : Option D} {a : Addr} {w : V} (S : StR K T rho H M) (h : dictAt M n y = some o) (ha : rho[n]? = some a) (ry : Rep K rho H y w) :
    ∃ r, DGet H a w r ∧ ((o = none ∧ r = none) ∨ ∃ d v, o = some d ∧ r = some v ∧ Rep K rho H d v) := by
  unfold dictAt at h
  split at h
  · rename_i kvs hm
    obtain ⟨vs, g1, g2⟩ := S.at_ _ a _ ha hm
    split at h
    · rename_i k hk
      simp only [Option.some.injEq] at h
      have hw := keyK_rep hk ry
      subst hw
      refine ⟨_, DGet.k (k := k) g1, ?_⟩
      rcases findK_val g2 k with ⟨a1, a2⟩ | ⟨d, v, a1, a2, a3⟩
      · exact .inl ⟨h ▸ a1, a2⟩
      · exact .inr ⟨d, v, h ▸ a1, a2, a3⟩
    · cases h
  · rename_i kvs hm
    obtain ⟨vs, g1, g2⟩ := S.at_ _ a _ ha hm
    split at h
    · rename_i k hk
      simp only [Option.some.injEq] at h
      obtain ⟨b, rfl, hb⟩ := keyT_rep hk ry
      refine ⟨_, DGet.t (k := k) g1 hb, ?_⟩
      rcases findK_val g2 k with ⟨a1, a2⟩ | ⟨d, v, a1, a2, a3⟩
      · exact .inl ⟨h ▸ a1, a2⟩
      · exact .inr ⟨d, v, h ▸ a1, a2, a3⟩
    · cases h
  · cases h
theorem ds_in (hK : X.K = G.K) (neg : Bool) : OpS G (dIn neg) (rInM X.K neg) := by
  rw [hK]
  intro W σ rho H M x y v w Q S rx ry P
  cases y with
  | str t =>
    cases rep_str ry
    cases x <;> simp only [dIn] at P <;> try exact P.elim
    cases rep_str rx
    exact .inl (.inl ⟨_, _, rfl, rfl, good_bl S P⟩)
  | tup ds =>
    simp only [dIn] at P
    split at P
    · rename_i d es e1 e2
      split at P
      · rename_i h
        exact .inr (.inl ⟨d, es, toPy_dp S 6 x d v e1 rx, toPy_dp S 6 _ _ w e2 ry, h.1, h.2.1, h.2.2, good_bl S P⟩)
      · exact P.elim
    · exact P.elim
  | ktp ds =>
    simp only [dIn] at P
    split at P
    · rename_i d es e1 e2
      split at P
      · rename_i h
        exact .inr (.inl ⟨d, es, toPy_dp S 6 x d v e1 rx, toPy_dp S 6 _ _ w e2 ry, h.1, h.2.1, h.2.2, good_bl S P⟩)
      · exact P.elim
    · exact P.elim
  | ref n =>
    have key : ∀ (o : Option D), dictAt M n x = some o → Post G W σ rho H (GoodD G.K Q) (.ok (.bl (if neg then !o.isSome else o.isSome)) M) → rInM G.K neg v w H Q := fun o ho P => by
      obtain ⟨a, rfl, ha⟩ := rep_ref ry
      obtain ⟨r, g, hr⟩ := dictAt_rep S ho ha rx
      refine .inr (.inr ⟨a, r, rfl, g, ?_⟩)
      have e : r.isSome = o.isSome := by rcases hr with ⟨rfl, rfl⟩ | ⟨d, v, rfl, rfl, _⟩ <;> rfl
      rw [e]; exact good_bl S P
    simp only [dIn] at P
    split at P
    · rename_i kvs hm
      split at P
      · rename_i k hk
        exact key (findK kvs k) (by simp [dictAt, hm, hk]) P
      · exact P.elim
    · rename_i kvs hm
      split at P
      · rename_i k hk
        exact key (findK kvs k) (by simp [dictAt, hm, hk]) P
      · exact P.elim
    · split at P
      · rename_i d es e1 e2
        split at P
        · rename_i h
          exact .inl (.inr ⟨d, es, toPy_dp S 6 x d v e1 rx, toPy_dp S 6 _ _ w e2 ry, h.1, h.2.1, h.2.2, good_bl S P⟩)
        · exact P.elim
      · exact P.elim
  | _ => exact P.elim

/-! ### subscripts -/
def dIx (x y : D) (M : Store) : Out D := match x with
  | .tup ds => (match y with
    | .int i => (match atI ds i with
      | some d => .ok d M
      | none => .bad)
    | _ => .bad)
  | .str z => (match y with
    | .int i => (match atI z.cps.toList i with
      | some c => if z.length ≤ cap then .ok (.str ⟨#[c]⟩) M else .bad
      | none => .bad)
    | _ => .bad)
  | .ref n => (match M[n]? with
    | some (.lst ds) => (match y with
      | .int i => (match atI ds i with
        | some d => .ok d M
        | none => .bad)
      | _ => .bad)
    | some (.frz ds) => (match y with
      | .int i => (match atI ds i with
        | some d => .ok d M
        | none => .bad)
      | _ => .bad)
    | _ => (match dictAt M n y with
      | some (some d) => .ok d M
      | _ => .bad))
  | _ => .bad
theorem reps_atI {K : PySem.W.Frag} {rho : List Addr} {H : Hp} {ds : List D} {vs : List V} {i : Int} {d : D} (r : Reps K rho H ds vs) (h : atI ds i = some d) : ∃ v, atI vs i = some v ∧ Rep K rho H d v := by
  unfold atI at h ⊢
  rw [r.length]
  cases e : ixN ds.length i with
  | none => rw [e] at h; simp at h
  | some j =>
    rw [e] at h
    exact r.get (by simpa using h)
def rGetD : R2 := fun x y H Q => ∃ a v, x = .ref a ∧ DGet H a y (some v) ∧ Q v H
theorem ix_dict (hu : X.A.units + 1 < cLine) : IxR X rGetD := by
  intro value slice pins s σ H x y v u Q I rx ry ⟨a, r, hx, g, q⟩ hs
  subst hx
  obtain rfl : v = Value.ref a := rx
  exact PyProof.Rows.tail_any (dict_typeIs I g) PySem.F.slot_dict_getitem.lookup (d_getItem hu I g ry fun w' s3 I3 rw' => ⟨r, H, I3, rw', q⟩) hs
def rIxM (K : PySem.W.Frag) : R2 := fun x y H Q => rIx K x y H Q ∨ rGetD x y H Q
theorem ix_all (hu : X.A.units + 1 < cLine) : IxR X (rIxM X.K) := ix_seq.or (ix_dict hu)
theorem ds_ix (hK : X.K = G.K) : OpS G dIx (rIxM X.K) := by
  rw [hK]
  intro W σ rho H M x y v w Q S rx ry P
  cases x <;> simp only [dIx] at P <;> try exact P.elim
  · rename_i z
    cases rep_str rx
    split at P
    · cases rep_int ry
      split at P
      · rename_i c hc
        split at P
        · rename_i hz
          exact .inl (.inr (.inr ⟨_, _, _, rfl, rfl, by rw [← cap_eq]; exact hz, hc, good_str S P⟩))
        · exact P.elim
      · exact P.elim
    · exact P.elim
  · obtain ⟨a, vs, rfl, h1, h2⟩ := rep_tup rx
    split at P
    · cases rep_int ry
      split at P
      · rename_i d hd
        obtain ⟨u, hu, ru⟩ := reps_atI h2 hd
        exact .inl (.inr (.inl ⟨a, vs, _, u, rfl, rfl, SqT.of h1, hu, P.now S u ru⟩))
      · exact P.elim
    · exact P.elim
  · obtain ⟨a, rfl, ha⟩ := rep_ref rx
    split at P
    · rename_i ds hm
      obtain ⟨vs, g1, g2⟩ := S.at_ _ a _ ha hm
      split at P
      · cases rep_int ry
        split at P
        · rename_i d hd
          obtain ⟨u, hu, ru⟩ := reps_atI g2 hd
          exact .inl (.inl ⟨a, vs, _, u, rfl, rfl, SqL.of g1, hu, P.now S u ru⟩)
        · exact P.elim
      · exact P.elim
    · rename_i ds hm
      obtain ⟨vs, g1, g2⟩ := S.at_ _ a _ ha hm
      split at P
      · cases rep_int ry
        split at P
        · rename_i d hd
          obtain ⟨u, hu, ru⟩ := reps_atI g2 hd
          exact .inl (.inl ⟨a, vs, _, u, rfl, rfl, g1.sq, hu, P.now S u ru⟩)
        · exact P.elim
      · exact P.elim
    · split at P
      · rename_i d hd
        obtain ⟨r, g, hr⟩ := dictAt_rep S hd ha ry
        rcases hr with ⟨h, _⟩ | ⟨d', u, h1, rfl, ru⟩
        · cases h
        · cases h1
          exact .inr ⟨a, u, rfl, g, P.now S u ru⟩
      · exact P.elim
theorem ev_ix {fa fb : EvE} {a b : Expr} {pos : Pos} (hK : X.K = G.K) (hu : X.A.units + 1 < cLine) (ha : PEv G X W fa a) (hb : PEv G X W fb b) (hs : PlainIx b := by intro _ _; rfl) : PEv G X W (eBin dIx fa fb) (.Subscript a b pos) :=
  PE.weak (pe_ix (ix_all hu) ha hb hs) fun σ H Q ⟨eta, M, rho, E, S, P⟩ => tE2 E S P fun r2 H2 M2 x y v w _ S2 rx ry P2 => ds_ix hK W σ r2 H2 M2 x y v w Q S2 rx ry P2

/-! ### slices -/
def cutD (xs : List D) (lo hi : Option Int) : List D := (xs.drop (HT.sIx xs.length 0 lo)).take (HT.sIx xs.length xs.length hi - HT.sIx xs.length 0 lo)
theorem Reps.cut {K : PySem.W.Frag} {rho : List Addr} {H : Hp} {ds : List D} {vs : List V} (r : Reps K rho H ds vs) (lo hi : Option Int) : Reps K rho H (cutD ds lo hi) (cutV vs lo hi) := by
  unfold cutD cutV
  rw [r.length]
  exact (r.drop _).take _
abbrev EvO := Env → Store → Out (Option Int)
def oNone : EvO := fun _ M => .ok none M
def oSome (f : EvE) : EvO := fun eta M => (f eta M).bind fun d M1 => match d with
  | .int i => .ok (some i) M1
  | _ => .bad
def dCut (x : D) (lo hi : Option Int) (M : Store) : Out D := match x with
  | .tup ds => .ok (.tup (cutD ds lo hi)) M
  | .ref n => (match M[n]? with
    | some (.lst ds) => .ok (.ref M.length) (M ++ [.lst (cutD ds lo hi)])
    | some (.frz ds) => .ok (.ref M.length) (M ++ [.lst (cutD ds lo hi)])
    | _ => .bad)
  | _ => .bad
def eCut (f : EvE) (lo hi : EvO) : EvE := fun eta M => (f eta M).bind fun x M1 => (lo eta M1).bind fun l M2 => (hi eta M2).bind fun h M3 => dCut x l h M3
def tO (G : Gd) (W : WX) (f : EvO) : TO := fun σ H Q => ∃ eta M rho, EnvR G.K rho H eta σ ∧ StR G.K G.T rho H M ∧ Post G W σ rho H (fun _ H' o _ => Q o H') (f eta M)
def POv (G : Gd) (X : Cx) (W : WX) (f : EvO) (e : Option Expr) : Prop := PO X e (tO G W f)
theorem PO.weak {e : Option Expr} {t t' : TO} (h : PO X e t) (k : ∀ σ H Q, t' σ H Q → t σ H Q) : PO X e t' := ⟨fun pins s σ H Q I q => h.run pins s σ H Q I (k σ H Q q)⟩
theorem ov_none : POv G X W oNone none := PO.weak po_none fun σ H Q ⟨eta, M, rho, E, S, P⟩ => P.now S
theorem ov_some {f : EvE} {e : Expr} (h : PEv G X W f e) : POv G X W (oSome f) (some e) :=
  PO.weak (po_some h) fun σ H Q ⟨eta, M, rho, E, S, P⟩ => ⟨eta, M, rho, E, S, P.bind.imp fun r1 H1 d M1 e1 S1 P1 v rv => by
    cases d <;> try exact P1.elim
    cases rep_int rv
    exact ⟨_, rfl, P1.now S1⟩⟩
theorem whole_cut (xs : List D) (lo hi : Option Int) (h : HT.sIx xs.length 0 lo = 0 ∧ HT.sIx xs.length xs.length hi = xs.length) : cutD xs lo hi = xs := by
  unfold cutD; rw [h.1, h.2]; simp
theorem ev_cut {f : EvE} {l h : EvO} {e : Expr} {lo hi : Option Expr} {p2 pos : Pos} (hK : X.K = G.K) (he : PEv G X W f e) (hl : POv G X W l lo) (hh : POv G X W h hi) : PEv G X W (eCut f l h) (.Subscript e (.Slice lo hi none p2) pos) := by
  refine PE.weak (pe_slice (sl_list.or sl_tupA) he hl hh) fun σ H Q ⟨eta, M, rho, E, S, P⟩ => ?_
  refine ⟨eta, M, rho, E, S, P.bind.imp fun r1 H1 x M1 e1 S1 P1 v rv => ⟨eta, M1, r1, E.mono e1, S1, P1.bind.imp fun r2 H2 l M2 e2 S2 P2 => ⟨eta, M2, r2, (E.mono e1).mono e2, S2, P2.bind.imp fun r3 H3 h M3 e3 S3 P3 => ?_⟩⟩⟩
  have rv3 := Rep.mono e3 _ _ (Rep.mono e2 _ _ rv)
  rw [hK]
  cases x <;> simp only [dCut] at P3 <;> try exact P3.elim
  · rename_i ds
    obtain ⟨a, vs, rfl, h1, h2⟩ := rep_tup rv3
    refine .inr ⟨a, vs, rfl, SqT.of h1, fun hw => ?_, fun _ => new_tup S3 (h2.cut l h) P3⟩
    rw [h2.length] at hw
    rw [whole_cut ds l h hw] at P3
    refine P3.now S3 _ ?_
    simp only [Rep]; exact ⟨a, vs, rfl, h1, h2⟩
  · obtain ⟨a, rfl, ha⟩ := rep_ref rv3
    split at P3
    · rename_i ds hm
      obtain ⟨vs, g1, g2⟩ := S3.at_ _ a _ ha hm
      exact .inl ⟨a, vs, rfl, SqL.of g1, new_lst S3 (g2.cut l h) P3⟩
    · rename_i ds hm
      obtain ⟨vs, g1, g2⟩ := S3.at_ _ a _ ha hm
      exact .inl ⟨a, vs, rfl, g1.sq, new_lst S3 (g2.cut l h) P3⟩
    · exact P3.elim
/-- xs[::-1] of a list -/
def dRev (x : D) (M : Store) : Out D := match x with
  | .ref n => (match M[n]? with
    | some (.lst ds) => .ok (.ref M.length) (M ++ [.lst ds.reverse])
    | some (.frz ds) => .ok (.ref M.length) (M ++ [.lst ds.reverse])
    | _ => .bad)
  | _ => .bad
theorem ev_rev {f : EvE} {e : Expr} {k : Nat} {p1 p2 p3 pos : Pos} (hK : X.K = G.K) (he : PEv G X W f e) : PEv G X W (eUn dRev f) (.Subscript e (.Slice none none (some (.UnaryOp .USub (.Constant (.int 1) k p1) p2)) p3) pos) :=
  PE.weak (pe_revL he) fun σ H Q ⟨eta, M, rho, E, S, P⟩ => ⟨eta, M, rho, E, S, P.bind.imp fun r1 H1 x M1 e1 S1 P1 v rv => by
    rw [hK]
    cases x <;> simp only [dRev] at P1 <;> try exact P1.elim
    obtain ⟨a, rfl, ha⟩ := rep_ref rv
    split at P1
    · rename_i ds hm
      obtain ⟨vs, g1, g2⟩ := S1.at_ _ a _ ha hm
      exact ⟨a, vs, rfl, SqL.of g1, new_lst S1 g2.reverse P1⟩
    · rename_i ds hm
      obtain ⟨vs, g1, g2⟩ := S1.at_ _ a _ ha hm
      exact ⟨a, vs, rfl, g1.sq, new_lst S1 g2.reverse P1⟩
    · exact P1.elim⟩

/-! ### argument lists, displays -/
def lNil : EvL := fun _ M => .ok [] M
def lCons (f : EvE) (g : EvL) : EvL := fun eta M => (f eta M).bind fun d M1 => (g eta M1).bind fun ds M2 => .ok (d :: ds) M2
/-- *e, e a tuple or a list -/
def itemsD (d : D) (M : Store) : Option (List D) := match d with
  | .tup ds => some ds
  | .ref n => (match M[n]? with
    | some (.lst ds) => some ds
    | some (.frz ds) => some ds
    | _ => none)
  | _ => none
theorem lv_nil : PLv G X W lNil [] := PA.weak pa_nil fun σ H Q ⟨eta, M, rho, E, S, P⟩ => P.now S _ Reps.nil
theorem lv_cons {f : EvE} {g : EvL} {e : Expr} {es : List Expr} (he : PEv G X W f e) (hes : PLv G X W g es) (hs : starEach (e :: es) X.env = (false, eval e X.env) :: starEach es X.env := by rfl) : PLv G X W (lCons f g) (e :: es) :=
  PA.weak (pa_cons he hes hs) fun σ H Q ⟨eta, M, rho, E, S, P⟩ => ⟨eta, M, rho, E, S, P.bind.imp fun r1 H1 x M1 e1 S1 P1 v rv => ⟨eta, M1, r1, E.mono e1, S1, P1.bind.imp fun r2 H2 ds M2 e2 S2 P2 vs rvs =>
    P2.now S2 _ (Reps.cons (Rep.mono e2 _ _ rv) rvs)⟩⟩
def eTup (g : EvL) : EvE := fun eta M => (g eta M).bind fun ds M1 => if ds.length ≤ cap then .ok (.tup ds) M1 else .bad
def eLst (g : EvL) : EvE := fun eta M => (g eta M).bind fun ds M1 => if ds.length ≤ cap then .ok (.ref M1.length) (M1 ++ [.lst ds]) else .bad
theorem ev_tup {g : EvL} {es : List Expr} {x1} {pos : Pos} (h : PLv G X W g es) : PEv G X W (eTup g) (.Tuple es x1 pos) :=
  PE.weak (pe_tup h) fun σ H Q ⟨eta, M, rho, E, S, P⟩ => ⟨eta, M, rho, E, S, P.bind.imp fun r1 H1 ds M1 e1 S1 P1 vs rvs => by
    split at P1
    · rename_i h
      exact ⟨by rw [rvs.length, ← cap_eq]; exact h, new_tup S1 rvs P1⟩
    · exact P1.elim⟩
theorem ev_lst {g : EvL} {es : List Expr} {pos : Pos} (h : PLv G X W g es) : PEv G X W (eLst g) (.List es pos) :=
  PE.weak (pe_lst h) fun σ H Q ⟨eta, M, rho, E, S, P⟩ => ⟨eta, M, rho, E, S, P.bind.imp fun r1 H1 ds M1 e1 S1 P1 vs rvs => by
    split at P1
    · rename_i h
      exact ⟨by rw [rvs.length, ← cap_eq]; exact h, new_lst S1 rvs P1⟩
    · exact P1.elim⟩
end
end Ev

/-! Ev, part E: statements, targets, loops. -/
namespace Ev
open PySem L2

inductive OutS where
  | nx (eta : Env) (M : Store)
  | rt (d : D) (M : Store)
  | bk (eta : Env) (M : Store)
  | ct (eta : Env) (M : Store)
  | exc (x : Nat) (fs : List (Str × D)) (eta : Env) (M : Store)
  | bad
abbrev EvS := Env → Store → OutS

def OutS.bindE {α : Type} (o : Out α) (eta : Env) (k : α → Store → OutS) : OutS := match o with
  | .ok a M => k a M
  | .exc x fs M => .exc x fs eta M
  | .bad => .bad

def PostS (G : Gd) (W : WX) (rho : List Addr) (H : Hp) (E : Ends) : OutS → Prop
  | .nx eta M => ∀ rho' H' σ', Ext rho H rho' H' → StR G.K G.T rho' H' M → EnvR G.K rho' H' eta σ' → E.nx σ' H'
  | .rt d M => ∀ rho' H' v, Ext rho H rho' H' → StR G.K G.T rho' H' M → Rep G.K rho' H' d v → E.rt v H'
  | .bk eta M => ∀ rho' H' σ', Ext rho H rho' H' → StR G.K G.T rho' H' M → EnvR G.K rho' H' eta σ' → E.bk σ' H'
  | .ct eta M => ∀ rho' H' σ', Ext rho H rho' H' → StR G.K G.T rho' H' M → EnvR G.K rho' H' eta σ' → E.ct σ' H'
  | .exc x fs eta M => ∀ rho' H' σ' cls dd, Ext rho H rho' H' → StR G.K G.T rho' H' M → EnvR G.K rho' H' eta σ' → RepX G rho' H' x fs cls dd → W cls dd σ' H'
  | .bad => False

def tS (G : Gd) (W : WX) (f : EvS) : TS := fun E σ H => ∃ eta M rho, EnvR G.K rho H eta σ ∧ StR G.K G.T rho H M ∧ PostS G W rho H E (f eta M)
def PSv (G : Gd) (X : Cx) (W : WX) (f : EvS) (s : Stmt) : Prop := PS X s (tS G W f)
def PSsv (G : Gd) (X : Cx) (W : WX) (f : EvS) (s : List Stmt) : Prop := PSs X s (tS G W f)

section
variable {G : Gd} {X : Cx} {W : WX} {rho rho' : List Addr} {H H' : Hp} {E E' : Ends}
theorem PostS.ext {o : OutS} (h : PostS G W rho H E o) (e : Ext rho H rho' H') : PostS G W rho' H' E o := by
  cases o with
  | nx eta M => exact fun r1 H1 s1 e1 S1 V1 => h r1 H1 s1 (e.trans e1) S1 V1
  | rt d M => exact fun r1 H1 v e1 S1 R1 => h r1 H1 v (e.trans e1) S1 R1
  | bk eta M => exact fun r1 H1 s1 e1 S1 V1 => h r1 H1 s1 (e.trans e1) S1 V1
  | ct eta M => exact fun r1 H1 s1 e1 S1 V1 => h r1 H1 s1 (e.trans e1) S1 V1
  | exc x fs eta M => exact fun r1 H1 s1 c d e1 S1 V1 X1 => h r1 H1 s1 c d (e.trans e1) S1 V1 X1
  | bad => exact h
theorem PostS.bindE {α : Type} {σ : St} {eta : Env} {o : Out α} {k : α → Store → OutS} (V : EnvR G.K rho H eta σ) (h : PostS G W rho H E (OutS.bindE o eta k)) :
    Post G W σ rho H (fun rho' H' a M => PostS G W rho' H' E (k a M)) o := by
  cases o with
  | ok a M => exact fun r1 H1 e1 S1 => PostS.ext h e1
  | exc x fs M => exact fun r1 H1 c d e1 S1 X1 => h r1 H1 σ c d e1 S1 (V.mono e1) X1
  | bad => exact h

/-! ### blocks -/
def sSkip : EvS := fun eta M => .nx eta M
def sSeq (f g : EvS) : EvS := fun eta M => match f eta M with
  | .nx eta' M' => g eta' M'
  | o => o
theorem sv_nil : PSsv G X W sSkip [] := PSs.weak pss_nil fun E σ H ⟨eta, M, rho, V, S, P⟩ => P rho H σ (Ext.refl _ _) S V
theorem sv_cons {f g : EvS} {s : Stmt} {r : List Stmt} (h : PSv G X W f s) (h' : PSsv G X W g r) : PSsv G X W (sSeq f g) (s :: r) :=
  PSs.weak (pss_cons h h') fun E σ H ⟨eta, M, rho, V, S, P⟩ => ⟨eta, M, rho, V, S, by
    unfold sSeq at P
    cases e : f eta M with
    | nx eta' M' => rw [e] at P; exact fun r1 H1 s1 e1 S1 V1 => ⟨eta', M', r1, V1, S1, P.ext e1⟩
    | rt d M' => rw [e] at P; exact P
    | bk eta' M' => rw [e] at P; exact P
    | ct eta' M' => rw [e] at P; exact P
    | exc x fs eta' M' => rw [e] at P; exact P
    | bad => rw [e] at P; exact P⟩
theorem sv_one {f : EvS} {s : Stmt} (h : PSv G X W f s) : PSsv G X W f [s] := pss_one h
def sBreak : EvS := fun eta M => .bk eta M
def sCont : EvS := fun eta M => .ct eta M
theorem sv_pass {pos : Pos} : PSv G X W sSkip (.Pass pos) := PS.weak ps_pass fun E σ H ⟨eta, M, rho, V, S, P⟩ => P rho H σ (Ext.refl _ _) S V
theorem sv_break {pos : Pos} : PSv G X W sBreak (.Break pos) := PS.weak ps_break fun E σ H ⟨eta, M, rho, V, S, P⟩ => P rho H σ (Ext.refl _ _) S V
theorem sv_cont {pos : Pos} : PSv G X W sCont (.Continue pos) := PS.weak ps_continue fun E σ H ⟨eta, M, rho, V, S, P⟩ => P rho H σ (Ext.refl _ _) S V
/-- a statement that the run never comes to -/
def sBad : EvS := fun _ _ => .bad
theorem sv_never {s : Stmt} : PSv G X W sBad s := PS.weak ps_never fun E σ H ⟨eta, M, rho, V, S, P⟩ => P
def eBad : EvE := fun _ _ => .bad
theorem ev_never {e : Expr} : PEv G X W eBad e := ⟨fun pins s σ H Q I ⟨eta, M, rho, V, S, P⟩ => P.elim⟩

/-! ### small statements -/
def sExpr (f : EvE) : EvS := fun eta M => OutS.bindE (f eta M) eta fun _ M1 => .nx eta M1
def sRet (f : EvE) : EvS := fun eta M => OutS.bindE (f eta M) eta fun d M1 => .rt d M1
def sRetN : EvS := fun _ M => .rt .non M
def sIf (c : EvT) (f g : EvS) : EvS := fun eta M => OutS.bindE (c eta M) eta fun b M1 => if b = true then f eta M1 else g eta M1
theorem rep_some {K : PySem.W.Frag} {d : D} {v : V} (h : Rep K rho H d v) : Rep K rho H d v := h
theorem sv_expr {f : EvE} {e : Expr} {pos : Pos} (he : PEv G X W f e) (hs : swapsWith e none pos.line X.env = pure false := by rfl) : PSv G X W (sExpr f) (.Expr e pos) :=
  PS.weak (ps_expr he hs) fun E σ H ⟨eta, M, rho, V, S, P⟩ => ⟨eta, M, rho, V, S, (P.bindE V).imp fun r1 H1 d M1 e1 S1 P1 v rv => P1 r1 H1 σ (Ext.refl _ _) S1 (V.mono e1)⟩
theorem sv_ret {f : EvE} {e : Expr} {pos : Pos} (he : PEv G X W f e) : PSv G X W (sRet f) (.Return (some e) pos) :=
  PS.weak (ps_ret he) fun E σ H ⟨eta, M, rho, V, S, P⟩ => ⟨eta, M, rho, V, S, (P.bindE V).imp fun r1 H1 d M1 e1 S1 P1 v rv => P1 r1 H1 v (Ext.refl _ _) S1 rv⟩
theorem sv_retN {pos : Pos} : PSv G X W sRetN (.Return none pos) := PS.weak ps_retN fun E σ H ⟨eta, M, rho, V, S, P⟩ => P rho H .non (Ext.refl _ _) S (by simp [Rep])
theorem sv_if {c : EvT} {f g : EvS} {e : Expr} {a b : List Stmt} {pos : Pos} (hc : PTv G X W c e) (ha : PSsv G X W f a) (hb : PSsv G X W g b) : PSv G X W (sIf c f g) (.If e a b pos) :=
  PS.weak (ps_if hc ha hb) fun E σ H ⟨eta, M, rho, V, S, P⟩ => ⟨eta, M, rho, V, S, (P.bindE V).imp fun r1 H1 k M1 e1 S1 P1 => by
    cases k with
    | true => exact ⟨eta, M1, r1, V.mono e1, S1, P1⟩
    | false => exact ⟨eta, M1, r1, V.mono e1, S1, P1⟩⟩

/-! ### the slots -/
theorem EnvR.set {K : PySem.W.Frag} {eta : Env} {σ : St} {d : D} {v : V} (V : EnvR K rho H eta σ) (i : Nat) (r : Rep K rho H d v) : EnvR K rho H (eta.set i (some d)) (σ.set i (some v)) := by
  refine ⟨by simp [V.len], fun j e h => ?_⟩
  by_cases hj : j = i
  · subst hj
    have hl : j < eta.length := by
      have := (List.getElem?_eq_some_iff.mp h).1
      simpa using this
    rw [List.getElem?_set_self hl] at h
    simp only [Option.some.injEq] at h
    subst h
    exact ⟨v, by rw [List.getElem?_set_self (by rw [← V.len]; exact hl)], r⟩
  · rw [List.getElem?_set_ne (Ne.symm hj)] at h
    obtain ⟨w, h1, h2⟩ := V.at_ j e h
    exact ⟨w, by rw [List.getElem?_set_ne (Ne.symm hj)]; exact h1, h2⟩
theorem wipe_set (σ : St) (i : Nat) (x : Option V) : ∀ vs : List Nat, i ∈ vs → wipe (σ.set i x) vs = wipe σ vs
  | [], h => by simp at h
  | v :: vs, h => by
    have key : ∀ (vs : List Nat) (τ : St), wipe (τ.set i x) vs = (if i ∈ vs then wipe τ vs else (wipe τ vs).set i x) := by
      intro vs
      induction vs with
      | nil => intro τ; simp [wipe]
      | cons u us ih =>
        intro τ
        simp only [wipe, ih]
        by_cases hi : i ∈ us
        · simp [hi]
        · by_cases hu : i = u
          · subst hu; simp [hi]
          · have : ¬ i ∈ u :: us := by simp [hu, hi]
            rw [if_neg hi, if_neg this, List.set_comm _ _ hu]
    rw [key]; simp only [if_pos h]

/-! ### targets -/
inductive Tgt where
  | nm (i : Nat)
  | tp (ts : List Tgt)
mutual
def Tgt.slots : Tgt → List Nat
  | .nm i => [i]
  | .tp ts => slotsL ts
def slotsL : List Tgt → List Nat
  | [] => []
  | t :: ts => t.slots ++ slotsL ts
end
/-- the members of what is taken apart -/
def partsD (d : D) (M : Store) : Option (List D) := match d with
  | .tup ds => some ds
  | .ref n => (match M[n]? with
    | some (.lst ds) => some ds
    | _ => none)
  | _ => none
mutual
def asg (M : Store) : Tgt → D → Env → Option Env
  | .nm i, d, eta => some (eta.set i (some d))
  | .tp ts, d, eta => match partsD d M with
    | some ds => asgs M ts ds eta
    | none => none
def asgs (M : Store) : List Tgt → List D → Env → Option Env
  | [], [], eta => some eta
  | t :: ts, d :: ds, eta => match asg M t d eta with
    | some eta' => asgs M ts ds eta'
    | none => none
  | _, _, _ => none
end
def tG (G : Gd) (t : Tgt) : TG := fun v σ H Q => ∃ eta M rho d eta', EnvR G.K rho H eta σ ∧ StR G.K G.T rho H M ∧ Rep G.K rho H d v ∧ asg M t d eta = some eta' ∧
  ∀ σ', EnvR G.K rho H eta' σ' → (∀ vs, (∀ i ∈ t.slots, i ∈ vs) → wipe σ' vs = wipe σ vs) → Q σ' H
def tGs (G : Gd) (ts : List Tgt) : TGs := fun ws σ H Q => ∃ eta M rho ds eta', EnvR G.K rho H eta σ ∧ StR G.K G.T rho H M ∧ Reps G.K rho H ds ws ∧ asgs M ts ds eta = some eta' ∧
  ∀ σ', EnvR G.K rho H eta' σ' → (∀ vs, (∀ i ∈ slotsL ts, i ∈ vs) → wipe σ' vs = wipe σ vs) → Q σ' H
def PGv (G : Gd) (X : Cx) (t : Tgt) (e : Expr) : Prop := PG X e (tG G t)
def PGsv (G : Gd) (X : Cx) (ts : List Tgt) (es : List Expr) : Prop := PGs X es (tGs G ts)
theorem PG.weak {e : Expr} {t t' : TG} (h : PG X e t) (k : ∀ v σ H Q, t' v σ H Q → t v σ H Q) : PG X e t' := ⟨fun pins s σ H v u Q I r q => h.run pins s σ H v u Q I r (k v σ H Q q)⟩
theorem PGs.weak {e : List Expr} {t t' : TGs} (h : PGs X e t) (k : ∀ v σ H Q, t' v σ H Q → t v σ H Q) : PGs X e t' := ⟨fun pins s σ H v u Q I r q => h.run pins s σ H v u Q I r (k v σ H Q q)⟩
theorem PG.or {e : Expr} {t t' : TG} (h : PG X e t) (h' : PG X e t') : PG X e (fun v σ H Q => t v σ H Q ∨ t' v σ H Q) := ⟨fun pins s σ H v u Q I r q => q.elim (h.run pins s σ H v u Q I r) (h'.run pins s σ H v u Q I r)⟩
theorem gv_name {i : Nat} {x : Str} {pos : Pos} (hN : X.N.Nodup) (hi : X.N[i]? = some x := by rfl) (hx : Loc X.env.scope x := by first | exact Or.inl rfl | exact Or.inr rfl) (hf : X.fn x = true ∨ X.env.scope.names.lookup x = some .local := by first | exact .inl rfl | exact .inr rfl) : PGv G X (.nm i) (.Name x pos) :=
  PG.weak (pg_name hN hi hx hf) fun v σ H Q ⟨eta, M, rho, d, eta', V, S, r, h, k⟩ => by
    simp only [asg, Option.some.injEq] at h
    subst h
    exact k _ (V.set i r) fun vs hv => wipe_set σ i _ vs (hv i (by simp [Tgt.slots]))
theorem gsv_nil : PGsv G X [] [] := PGs.weak pgs_nil fun ws σ H Q ⟨eta, M, rho, ds, eta', V, S, r, h, k⟩ => by
  cases ds with
  | nil =>
    simp only [asgs, Option.some.injEq] at h
    subst h
    simp only [Reps] at r
    exact ⟨r, k σ V fun _ _ => rfl⟩
  | cons d ds => simp [asgs] at h
theorem gsv_cons {t : Tgt} {ts : List Tgt} {e : Expr} {es : List Expr} (h1 : PGv G X t e) (h2 : PGsv G X ts es) (hs : (assignEach (e :: es) X.env).map (·.2) = assign e X.env :: (assignEach es X.env).map (·.2) := by rfl) : PGsv G X (t :: ts) (e :: es) :=
  PGs.weak (pgs_cons h1 h2 hs) fun ws σ H Q ⟨eta, M, rho, ds, eta', V, S, r, h, k⟩ => by
    cases ds with
    | nil => simp [asgs] at h
    | cons d ds =>
      simp only [Reps] at r
      obtain ⟨v, us, rfl, r1, r2⟩ := r
      simp only [asgs] at h
      split at h
      · rename_i eta1 he
        exact ⟨v, us, rfl, eta, M, rho, d, eta1, V, S, r1, he, fun σ1 V1 w1 => ⟨eta1, M, rho, ds, eta', V1, S, r2, h, fun σ2 V2 w2 => k σ2 V2 fun vs hv => by
          rw [w2 vs fun i hi => hv i (by simp [slotsL, hi]), w1 vs fun i hi => hv i (by simp [slotsL, hi])]⟩⟩
      · cases h
theorem gv_tup {ts : List Tgt} {es : List Expr} {k : Nat} {pos : Pos} {n : Nat} (hK : X.K = G.K) (hc : X.calm = true) (h : PGsv G X ts es)
    (hl : ts.length = n) (hn : (assignEach es X.env).length = n := by rfl) (hst : (assignEach es X.env).findIdx? (·.1) = none := by rfl) : PGv G X (.tp ts) (.Tuple es k pos) :=
  PG.weak (PG.or (pg_tup hc h hn hst) (pg_lst hc h hn hst)) fun v σ H Q ⟨eta, M, rho, d, eta', V, S, r, ha, kk⟩ => by
    have hlen : ∀ (ts : List Tgt) (ds : List D) (eta eta' : Env), asgs M ts ds eta = some eta' → ds.length = ts.length := by
      intro ts
      induction ts with
      | nil => intro ds eta eta' h; cases ds with
        | nil => rfl
        | cons _ _ => simp [asgs] at h
      | cons t ts ih =>
        intro ds eta eta' h
        cases ds with
        | nil => simp [asgs] at h
        | cons d ds =>
          simp only [asgs] at h
          split at h
          · rw [List.length_cons, List.length_cons, ih _ _ _ h]
          · cases h
    simp only [asg] at ha
    split at ha
    · rename_i ds hp
      have e1 := hlen ts ds eta eta' ha
      unfold partsD at hp
      split at hp
      · simp only [Option.some.injEq] at hp
        subst hp
        obtain ⟨a, vs, rfl, h1, h2⟩ := rep_tup r
        exact .inl ⟨a, vs, rfl, by rw [hK]; exact SqT.of h1, by rw [h2.length, e1, hl], eta, M, rho, _, eta', V, S, h2, ha, fun σ' V' w' => kk σ' V' fun vs hv => w' vs fun i hi => hv i (by simpa only [Tgt.slots] using hi)⟩
      · rename_i n0
        obtain ⟨a, rfl, haa⟩ := rep_ref r
        split at hp
        · rename_i ds0 hm
          simp only [Option.some.injEq] at hp
          subst hp
          obtain ⟨vs, g1, g2⟩ := S.at_ _ a _ haa hm
          exact .inr ⟨a, vs, rfl, by rw [hK]; exact SqL.of g1, by rw [g2.length, e1, hl], eta, M, rho, _, eta', V, S, g2, ha, fun σ' V' w' => kk σ' V' fun vs hv => w' vs fun i hi => hv i (by simpa only [Tgt.slots] using hi)⟩
        · cases hp
      · cases hp
    · cases ha

/-! ### assignments -/
def sAsg (t : Tgt) (f : EvE) : EvS := fun eta M => OutS.bindE (f eta M) eta fun d M1 => match asg M1 t d eta with
  | some eta' => .nx eta' M1
  | none => .bad
theorem sv_asg {t : Tgt} {f : EvE} {tg e : Expr} {pos : Pos} (he : PEv G X W f e) (hg : PGv G X t tg) (hs : swapsWithSole [tg] e pos.line X.env = pure false := by rfl) (hw : swappedStores [tg] e X.env = pure none := by rfl)
    (h1 : (assignEach [tg] X.env).map (·.2) = [assign tg X.env] := by rfl) : PSv G X W (sAsg t f) (.Assign [tg] e pos) :=
  PS.weak (ps_asg he hg hs hw h1) fun E σ H ⟨eta, M, rho, V, S, P⟩ => ⟨eta, M, rho, V, S, (P.bindE V).imp fun r1 H1 d M1 e1 S1 P1 v rv => by
    split at P1
    · rename_i eta' ha
      exact ⟨eta, M1, r1, d, eta', V.mono e1, S1, rv, ha, fun σ' V' _ => P1 r1 H1 σ' (Ext.refl _ _) S1 V'⟩
    · exact P1.elim⟩
theorem sv_set {i : Nat} {x : Str} {f : EvE} {e : Expr} {pos pos' : Pos} (hN : X.N.Nodup) (he : PEv G X W f e) (hi : X.N[i]? = some x := by rfl) (hx : Loc X.env.scope x := by first | exact Or.inl rfl | exact Or.inr rfl)
    (hs : swapsWith e (some (.Name x pos')) pos.line X.env = pure false := by rfl) (hf : X.fn x = true ∨ X.env.scope.names.lookup x = some .local := by first | exact .inl rfl | exact .inr rfl) : PSv G X W (sAsg (.nm i) f) (.Assign [.Name x pos'] e pos) :=
  PS.weak (ps_set hN hi hx he hs hf) fun E σ H ⟨eta, M, rho, V, S, P⟩ => ⟨eta, M, rho, V, S, (P.bindE V).imp fun r1 H1 d M1 e1 S1 P1 v rv => P1 r1 H1 _ (Ext.refl _ _) S1 ((V.mono e1).set i rv)⟩
/-- a, b = x, y and a, b, c = x, y, z of plain local names -/
def setAll : List Nat → List D → Env → Option Env
  | [], [], eta => some eta
  | i :: is, d :: ds, eta => setAll is ds (eta.set i (some d))
  | _, _, _ => none
def sPar (is : List Nat) (g : EvL) : EvS := fun eta M => OutS.bindE (g eta M) eta fun ds M1 => match setAll is ds eta with
  | some eta' => .nx eta' M1
  | none => .bad
theorem sv_par {i j : Nat} {x y : Str} {a b : Expr} {g : EvL} {px py pt pos : Pos} {kt k2 : Nat} {pt2 : Pos} (hc : X.calm = true) (hN : X.N.Nodup) (ha : PLv G X W g [a, b]) (hi : X.N[i]? = some x := by rfl) (hj : X.N[j]? = some y := by rfl) (hij : i ≠ j := by decide)
    (hx : X.env.scope.names.lookup x = some .local := by rfl) (hy : X.env.scope.names.lookup y = some .local := by rfl)
    (hw : swappedStores [.Tuple [.Name x px, .Name y py] kt pt] (.Tuple [a, b] k2 pt2) X.env = pure (some [x, y]) := by rfl)
    (hs : swapsWithSole [.Tuple [.Name x px, .Name y py] kt pt] (.Tuple [a, b] k2 pt2) pos.line X.env = pure false := by rfl) :
    PSv G X W (sPar [i, j] g) (.Assign [.Tuple [.Name x px, .Name y py] kt pt] (.Tuple [a, b] k2 pt2) pos) :=
  PS.weak (ps_par hc hN hi hj hij hx hy ha hw hs) fun E σ H ⟨eta, M, rho, V, S, P⟩ => ⟨eta, M, rho, V, S, (P.bindE V).imp fun r1 H1 ds M1 e1 S1 P1 vs rvs => by
    split at P1
    · rename_i eta' hs
      match ds, hs with
      | [d, e], hs =>
        simp only [setAll, Option.some.injEq] at hs
        subst hs
        obtain ⟨v, w, rfl, r1', r2'⟩ := rvs.two
        exact ⟨v, w, rfl, P1 r1 H1 _ (Ext.refl _ _) S1 (((V.mono e1).set i r1').set j r2')⟩
    · exact P1.elim⟩
theorem sv_par3 {i j l : Nat} {x y z : Str} {a b c : Expr} {g : EvL} {px py pz pt pos : Pos} {kt k2 : Nat} {pt2 : Pos} (hc : X.calm = true) (hN : X.N.Nodup) (ha : PLv G X W g [a, b, c]) (hi : X.N[i]? = some x := by rfl) (hj : X.N[j]? = some y := by rfl) (hl : X.N[l]? = some z := by rfl)
    (hij : i ≠ j := by decide) (hil : i ≠ l := by decide) (hjl : j ≠ l := by decide)
    (hx : X.env.scope.names.lookup x = some .local := by rfl) (hy : X.env.scope.names.lookup y = some .local := by rfl) (hz : X.env.scope.names.lookup z = some .local := by rfl)
    (hw : swappedStores [.Tuple [.Name x px, .Name y py, .Name z pz] kt pt] (.Tuple [a, b, c] k2 pt2) X.env = pure (some [x, y, z]) := by rfl)
    (hs : swapsWithSole [.Tuple [.Name x px, .Name y py, .Name z pz] kt pt] (.Tuple [a, b, c] k2 pt2) pos.line X.env = pure false := by rfl) :
    PSv G X W (sPar [i, j, l] g) (.Assign [.Tuple [.Name x px, .Name y py, .Name z pz] kt pt] (.Tuple [a, b, c] k2 pt2) pos) :=
  PS.weak (ps_par3 hc hN hi hj hl hij hil hjl hx hy hz ha hw hs) fun E σ H ⟨eta, M, rho, V, S, P⟩ => ⟨eta, M, rho, V, S, (P.bindE V).imp fun r1 H1 ds M1 e1 S1 P1 vs rvs => by
    split at P1
    · rename_i eta' hs
      match ds, hs with
      | [d, e, f], hs =>
        simp only [setAll, Option.some.injEq] at hs
        subst hs
        obtain ⟨v, w, u, rfl, r1', r2', r3'⟩ := rvs.three
        exact ⟨v, w, u, rfl, P1 r1 H1 _ (Ext.refl _ _) S1 ((((V.mono e1).set i r1').set j r2').set l r3')⟩
    · exact P1.elim⟩
/-- name op= e -/
def sAug (i : Nat) (op : D → D → Store → Out D) (f : EvE) : EvS := fun eta M => match eta[i]? with
  | some (some x) => OutS.bindE ((f eta M).bind fun y M1 => op x y M1) eta fun z M2 => .nx (eta.set i (some z)) M2
  | _ => .bad
theorem sv_aug {i : Nat} {x : Str} {op : Operator} {g : D → D → Store → Out D} {r : R2} {f : EvE} {e : Expr} {pos pos' : Pos} (hN : X.N.Nodup) (ho : OpR X (inplaceOp op) r) (hs : OpS G g r) (he : PEv G X W f e) (hi : X.N[i]? = some x := by rfl)
    (hx : Loc X.env.scope x := by first | exact Or.inl rfl | exact Or.inr rfl) (hf : X.fn x = true ∨ X.env.scope.names.lookup x = some .local := by first | exact .inl rfl | exact .inr rfl) : PSv G X W (sAug i g f) (.AugAssign (.Name x pos') op e pos) :=
  PS.weak (ps_aug hN hi hx he (ti := r) ho hf) fun E σ H ⟨eta, M, rho, V, S, P⟩ => by
    unfold sAug at P
    split at P
    · rename_i d hd
      obtain ⟨v, hv, rv⟩ := V.at_ i d hd
      refine ⟨v, hv, eta, M, rho, V, S, (P.bindE V).bind.imp fun r1 H1 y M1 e1 S1 P1 w rw' => ?_⟩
      refine hs W σ r1 H1 M1 d y v w _ S1 (Rep.mono e1 _ _ rv) rw' (P1.imp fun r2 H2 z M2 e2 S2 P2 u ru => ?_)
      exact P2 r2 H2 _ (Ext.refl _ _) S2 (((V.mono e1).mono e2).set i ru)
    · exact P.elim

/-! ### while -/
def sWhile (c : EvT) (b : EvS) : Nat → EvS
  | 0 => fun _ _ => .bad
  | n + 1 => fun eta M => OutS.bindE (c eta M) eta fun k M1 => if k = true then (match b eta M1 with
      | .nx eta' M' => sWhile c b n eta' M'
      | .ct eta' M' => sWhile c b n eta' M'
      | .bk eta' M' => .nx eta' M'
      | o => o) else .nx eta M1
theorem sv_while {c : EvT} {b : EvS} {e : Expr} {body : List Stmt} {pos : Pos} {n : Nat} (hp : PassesOwn (model X.prog X.w) X.A X.env X.xe) (hc : PTv G X W c e) (hb : PSsv G X W b body) : PSv G X W (sWhile c b n) (.While e body [] pos) :=
  PS.weak (ps_while hp hc hb) fun E σ H h => ⟨fun m σ H => tS G W (sWhile c b m) E σ H, ⟨n, h⟩, fun m σ H ⟨eta, M, rho, V, S, P⟩ => by
    cases m with
    | zero => exact P.elim
    | succ m =>
      simp only [sWhile] at P
      refine ⟨eta, M, rho, V, S, (P.bindE V).imp fun r1 H1 k M1 e1 S1 P1 => ?_⟩
      cases k with
      | false => exact P1 r1 H1 σ (Ext.refl _ _) S1 (V.mono e1)
      | true =>
        refine ⟨fun σ' H' => tS G W (sWhile c b m) E σ' H', fun σ' H' h' => ⟨m, Nat.lt_succ_self m, h'⟩, eta, M1, r1, V.mono e1, S1, ?_⟩
        simp only [if_true] at P1
        cases e2 : b eta M1 with
        | nx eta' M' => rw [e2] at P1; exact fun r2 H2 s2 e3 S2 V2 => ⟨eta', M', r2, V2, S2, P1.ext e3⟩
        | ct eta' M' => rw [e2] at P1; exact fun r2 H2 s2 e3 S2 V2 => ⟨eta', M', r2, V2, S2, P1.ext e3⟩
        | bk eta' M' => rw [e2] at P1; exact P1
        | rt d M' => rw [e2] at P1; exact P1
        | exc x fs eta' M' => rw [e2] at P1; exact P1
        | bad => rw [e2] at P1; exact P1⟩

/-! ### what is walked -/
/-- at turn i: none: it cannot be said; some none: it stops -/
abbrev Iter := Nat → Store → Option (Option D)
abbrev EvIt := Env → Store → Out Iter
def IterR (G : Gd) (rho : List Addr) (H : Hp) (J : Iter) (J' : It) : Prop := ∀ rho1 H1 M1 i, Ext rho H rho1 H1 → StR G.K G.T rho1 H1 M1 → match J i M1 with
  | some (some d) => J'.go i H1 ∧ ∀ x H2, J'.yld i H1 x H2 → Ext rho1 H1 rho1 H2 ∧ StR G.K G.T rho1 H2 M1 ∧ Rep G.K rho1 H2 d x
  | some none => J'.stop i H1
  | none => True
def tI (G : Gd) (W : WX) (f : EvIt) : TI := fun σ H R => ∃ eta M rho, EnvR G.K rho H eta σ ∧ StR G.K G.T rho H M ∧ Post G W σ rho H (fun rho' H' J _ => ∀ J', IterR G rho' H' J J' → R J' H') (f eta M)
def PIv (G : Gd) (X : Cx) (W : WX) (f : EvIt) (tg e : Expr) : Prop := PI X tg e (tI G W f)
theorem PI.weak {tg e : Expr} {t t' : TI} (h : PI X tg e t) (k : ∀ σ H R, t' σ H R → t σ H R) : PI X tg e t' := ⟨fun pins s σ H R I q => h.run pins s σ H R I (k σ H R q)⟩
theorem PI.or {tg e : Expr} {t t' : TI} (h : PI X tg e t) (h' : PI X tg e t') : PI X tg e (fun σ H R => t σ H R ∨ t' σ H R) := ⟨fun pins s σ H R I q => q.elim (h.run pins s σ H R I) (h'.run pins s σ H R I)⟩

def forLoop (J : Iter) (t : Tgt) (b : EvS) : Nat → Nat → EvS
  | 0, _ => fun _ _ => .bad
  | m + 1, i => fun eta M => match J i M with
    | none => .bad
    | some none => .nx eta M
    | some (some d) => (match asg M t d eta with
      | none => .bad
      | some eta1 => (match b eta1 M with
        | .nx eta' M' => forLoop J t b m (i + 1) eta' M'
        | .ct eta' M' => forLoop J t b m (i + 1) eta' M'
        | .bk eta' M' => .nx eta' M'
        | o => o))
@[irreducible] def FUEL : Nat := 20000000
def sFor (it : EvIt) (t : Tgt) (b : EvS) : EvS := fun eta M => OutS.bindE (it eta M) eta fun J M1 => forLoop J t b FUEL 0 eta M1
theorem sv_for {it : EvIt} {t : Tgt} {b : EvS} {tg iter : Expr} {body : List Stmt} {pos : Pos} (hp : PassesOwn (model X.prog X.w) X.A X.env X.xe) (hc : X.calm = true) (hi : PIv G X W it tg iter) (hg : PGv G X t tg) (hb : PSsv G X W b body)
    (hs : ∀ x, foldedSetIterable iter X.env x = pure x := by intro _; rfl) : PSv G X W (sFor it t b) (.For tg iter body [] pos) :=
  PS.weak (ps_for hp hc hi hg hb hs) fun E σ H ⟨eta, M, rho, V, S, P⟩ => by
    refine ⟨eta, M, rho, V, S, (P.bindE V).imp fun r1 H1 J M1 e1 S1 P1 J' R => ?_⟩
    refine ⟨fun i m σ H => ∃ eta M rho, Ext r1 H1 rho H ∧ EnvR G.K rho H eta σ ∧ StR G.K G.T rho H M ∧ PostS G W rho H E (forLoop J t b m i eta M), ⟨FUEL, eta, M1, r1, Ext.refl _ _, V.mono e1, S1, P1⟩, ?_⟩
    rintro i m σ H ⟨eta, M, rho, e2, V, S, P⟩
    cases m with
    | zero => exact P.elim
    | succ m =>
      simp only [forLoop] at P
      have Rj := R rho H M i e2 S
      split at P
      · exact P.elim
      · rename_i hJ
        rw [hJ] at Rj
        exact .inl ⟨Rj, P rho H σ (Ext.refl _ _) S V⟩
      · rename_i d hJ
        rw [hJ] at Rj
        obtain ⟨go, yl⟩ := Rj
        refine .inr ⟨go, fun σ' H' => ∃ eta M rho, Ext r1 H1 rho H' ∧ EnvR G.K rho H' eta σ' ∧ StR G.K G.T rho H' M ∧ PostS G W rho H' E (forLoop J t b m (i + 1) eta M), fun σ' H' h' => ⟨m, Nat.lt_succ_self m, h'⟩, fun x H' hy => ?_⟩
        obtain ⟨e3, S3, rx⟩ := yl x H' hy
        split at P
        · exact P.elim
        · rename_i eta1 ha
          refine ⟨eta, M, rho, d, eta1, V.mono e3, S3, rx, ha, fun σ2 V2 _ => ⟨eta1, M, rho, V2, S3, ?_⟩⟩
          cases e4 : b eta1 M with
          | nx eta' M' => rw [e4] at P; exact fun r2 H2 s2 e5 S2 V2 => ⟨eta', M', r2, (e2.trans e3).trans e5, V2, S2, (P.ext e3).ext e5⟩
          | ct eta' M' => rw [e4] at P; exact fun r2 H2 s2 e5 S2 V2 => ⟨eta', M', r2, (e2.trans e3).trans e5, V2, S2, (P.ext e3).ext e5⟩
          | bk eta' M' => rw [e4] at P; exact P.ext e3
          | rt d M' => rw [e4] at P; exact P.ext e3
          | exc x fs eta' M' => rw [e4] at P; exact P.ext e3
          | bad => rw [e4] at P; exact P
end
end Ev

/-! Ev, part F: what is walked: lists, tuples, texts, ranges, enumerate; list comprehensions. -/
namespace PySem
open Sem (wp)
set_option maxHeartbeats 1000000 in
/-- enumerate(v) of one argument, v anything whose iterator is known -/
theorem ev_enum_made {val : Value} {ob : Obj} {Hv : Heap → Prop} (B : Begins val ob Hv) :
    Meets (Builtin.«enumerate.__new__» ⟨[.type "enumerate", val], []⟩) (fun _ R st => Hv st.heap ∧
      R (.ok (.ret (.ref (st.heap.push ob).objs.size))) { st with heap := (st.heap.push ob).push { cls := .type "enumerate", data := .fields #[.none, .bool false, .ref st.heap.objs.size, rawInt 0, .none, .none] } }) :=
  .of_wp fun pr wd Ar Re st hh => by
    obtain ⟨h0, g0, d0, k0, o0⟩ := st
    obtain ⟨hv, hh⟩ := hh
    have sub0 := sub_enumerate
    have it0 : ∀ {Ay : Around} {Ey : Value → Shared → Prop} {Qy : Value → Shared → Prop}, Qy (.ref h0.objs.size) ⟨h0.push ob, g0, d0, k0, o0⟩ → wpAny (model pr wd) Ay (pyIter val) Qy Ey ⟨h0, g0, d0, k0, o0⟩ :=
      fun z => B.iter pr wd _ _ ⟨h0, g0, d0, k0, o0⟩ _ hv z
    wp_walk using it0
    refine wpAny_stack_any fun stk => wpAny_pure ?_
    split
    · rename_i cc _ _ _ _ _
      cases (cc == Value.type "enumerate")
      · wp_walk using it0
        exact ⟨_, rfl, hh⟩
      · wp_walk using it0
        exact ⟨_, rfl, hh⟩
    · wp_walk using it0
      exact ⟨_, rfl, hh⟩
theorem ev_enum_call {pr : Program} {wd : World} {Ar : Around} {Ex : Value → Shared → Prop} {st : Shared} {val : Value} {ob : Obj} {Hv : Heap → Prop} {Qv : Value → Shared → Prop} (B : Begins val ob Hv) (hv : Hv st.heap)
    (k : ∀ h', IsEnum h' (st.heap.objs.size + 1) st.heap.objs.size 0 .none → h'.get? st.heap.objs.size = some ob → (∀ b o, st.heap.get? b = some o → h'.get? b = some o) → Qv (.ref (st.heap.objs.size + 1)) { st with heap := h' }) :
    wpAny (model pr wd) Ar (call (.type "enumerate") [val]) Qv Ex st := by
  refine callType_new F.called_enumerate (by decide) (F.typeCall_enumerate_1 _) (F.newCall_enumerate_1 _) (fun obj => F.args_object_init_2 obj _) F.entry_enumerate_new (ev_enum_made B) ⟨hv, ?_⟩
  have sz : (st.heap.push ob).objs.size = st.heap.objs.size + 1 := Heap.size_push ..
  show _ ∧ _
  rw [sz]
  have en : IsEnum ((st.heap.push ob).push { cls := .type "enumerate", data := .fields #[.none, .bool false, .ref st.heap.objs.size, rawInt 0, .none, .none] }) (st.heap.objs.size + 1) st.heap.objs.size 0 .none := by
    have z := Heap.get?_push_size (st.heap.push ob) (o := { cls := .type "enumerate", data := .fields #[.none, .bool false, .ref st.heap.objs.size, rawInt 0, .none, .none] }) rfl
    rw [sz] at z
    exact z
  exact ⟨⟨_, en, rfl⟩, k _ en (Heap.get?_push_of_some _ (Heap.get?_push_size _ B.free)) fun b o z => Heap.get?_push_of_some _ (Heap.get?_push_of_some _ z)⟩
end PySem

namespace Ev
open PySem PySem.Spec PyProof.Rows L2

/-! ### enumerate of a tuple, at the hand layer -/
theorem ty_ne {a b : String} (h : a ≠ b) {P : Prop} (e : Value.type a = Value.type b) : P := by
  injection e with e
  exact absurd e h
/-- the n members of the tuple at a, each in a new pair with its number -/
def IteT (K : PySem.W.Frag) (a : Addr) (n : Nat) : It where
  go := fun i H => i < n ∧ ∃ (xs : List V) (x : V), SqT K H a xs ∧ xs[i]? = some x ∧ xs.length = n
  yld := fun i H v H' => ∃ T x, v = .ref T ∧ H T = none ∧ H' = upd H T (.tup [.int (i : Nat), x]) ∧ ∀ xs, SqT K H a xs → xs[i]? = some x
  stop := fun i H => n ≤ i ∧ ∃ xs : List V, SqT K H a xs ∧ xs.length = n
theorem turn_enumT {P : Program} {w : World} {K : PySem.W.Frag} {elts : List Expr} {kk : Nat} {tpos : Pos} (a e it : Addr) (n : Nat) :
    Turn P w K (.Tuple elts kk tpos) (IteT K a n) [e, it] e (fun i h => ((∃ old, IsEnum h e it ((i : Nat) : Int) old) ∧ h.IsTupleIter it a i ∧ e ≠ it) ∧ i ≤ n) where
  mem := List.mem_cons_self
  obj := by
    rintro i h ⟨⟨⟨old, he⟩, ⟨o, ho, hc, hd⟩, _⟩, _⟩ b hb
    rcases List.mem_cons.mp hb with z | z
    · subst z; exact ⟨_, he, fun v q => nomatch q⟩
    · have z' := List.mem_singleton.mp z
      subst z'
      exact ⟨o, ho, fun v q => by rw [hd] at q; cases q⟩
  keep := by
    rintro i h h' ⟨⟨⟨old, he⟩, hi, hne⟩, hn⟩ k
    exact ⟨⟨⟨old, k e (by simp) _ he⟩, hi.at fun o q => k it (by simp) o q, hne⟩, hn⟩
  item := by
    intro X hP hw hK hc i pins s σ H Ex I hf hst hgo
    subst hP hw hK
    obtain ⟨⟨⟨old, he⟩, hit, hne⟩, hin⟩ := hst
    obtain ⟨hi, xs, x, hq, hx, hln⟩ := hgo
    obtain ⟨its, rv, tp, hz⟩ := I.tuple hq
    obtain ⟨u, hu, ru⟩ := rv.get hx
    have lte : e < s.heap.objs.size := Heap.lt_size he
    have lti : it < s.heap.objs.size := by obtain ⟨_, q, _⟩ := hit; exact Heap.lt_size q
    have nea : a ≠ e := fun z => by
      subst z
      obtain ⟨o, q, c, _⟩ := tp
      have he' : s.heap.get? a = some _ := he
      rw [he'] at q; cases q
      exact ty_ne (by decide) c
    have nia : a ≠ it := fun z => by
      subst z
      obtain ⟨o, q, c, _⟩ := tp
      obtain ⟨o2, q2, c2, _⟩ := hit
      rw [q] at q2; cases q2
      rw [c] at c2; exact ty_ne (by decide) c2
    have hlt : i < its.toArray.size := by
      have := (List.getElem?_eq_some_iff.mp hu).1
      simpa using this
    have hh : X.A.in1.handled = none := I.ok.hd hc
    refine wpAny_pyNext_enum_itemD (fp := [it, a]) (St := fun i h => h.IsTupleIter it a i ∧ h.IsTuple a its.toArray) (Draws.tuple hh it a nia its.toArray) he ⟨hit, tp⟩ hlt hne (by simp [hne, Ne.symm nea]) fun y h1 tk hy ho hit1 hT hsz hk => ?_
    have ey : y = u := by
      have : its.toArray[i]? = some u := by simpa using hu
      rw [this] at hy; exact (Option.some.inj hy).symm
    subst ey
    refine ⟨_, rfl, wpAny_letOwnedTupleGo_enum (s := { s with heap := h1, toks := tk + 1 }) ho fun h2 he2 sb => ?_⟩
    have hT2 : h2.get? s.heap.objs.size = some { cls := .type "tuple", data := .seq #[.int i tk, y] } := (sb.2 _ (Nat.ne_of_gt lte)).trans hT
    have new : ObjOk X.prog X.w (upd H s.heap.objs.size (.tup [.int (i : Nat), x])) h2 s.heap.objs.size (.tup [.int (i : Nat), x]) :=
      ⟨by show 2 ≤ sizeLine; decide, [.int i tk, y], Paired.cons ⟨_, rfl⟩ (Paired.cons ru Paired.nil), ⟨_, hT2, rfl, _, rfl⟩⟩
    have I1 : Inv X pins σ (upd H s.heap.objs.size (.tup [.int (i : Nat), x])) { s with heap := h2, toks := tk + 1 } :=
      I.turnedNew (ch := [e, it]) (fun b ob hb q => (sb.2 b (fun z => hb (by simp [z]))).trans (hk b ob (fun z => hb (by simp [z])) (fun z => hb (by simp [z])) q)) hf (Nat.le_refl _) new
    refine ⟨.ref s.heap.objs.size, _, I1, rfl, ⟨_, x, rfl, I.hok.fresh (Nat.le_refl _), rfl, fun ys hy => by rw [I.tuple_inj hy hq]; exact hx⟩, ⟨⟨⟨y, ?_⟩, hit1.1.at fun o q => (sb.2 it (Ne.symm hne)).trans q, hne⟩, hi⟩, fun b hb => ?_⟩
    · have e1 : ((i + 1 : Nat) : Int) = (i : Int) + 1 := by omega
      rw [e1]; exact he2
    · have hb' : b < s.heap.objs.size := by
        rcases List.mem_cons.mp hb with z | z
        · rw [z]; exact lte
        · rw [List.mem_singleton.mp z]; exact lti
      rw [upd_ne (Nat.ne_of_lt hb')]
      exact (hf b hb).1
  done := by
    intro X hP hw hK hc i pins s σ H Ex I hf hst hgo
    subst hP hw hK
    obtain ⟨⟨⟨old, he⟩, hit, hne⟩, hin⟩ := hst
    obtain ⟨hi, xs, hq, hx⟩ := hgo
    obtain ⟨its, rv, tp, hz⟩ := I.tuple hq
    have nia : a ≠ it := fun z => by
      subst z
      obtain ⟨o, q, c, _⟩ := tp
      obtain ⟨o2, q2, c2, _⟩ := hit
      rw [q] at q2; cases q2
      rw [c] at c2; exact ty_ne (by decide) c2
    obtain ⟨f0, f1, f2, f3, f4, f5⟩ := hf it (by simp)
    have hl := rv.length
    have en : i = its.toArray.size := by simp; omega
    have hh : X.A.in1.handled = none := I.ok.hd hc
    exact wpAny_pyNext_enum_endD (St := fun i h => h.IsTupleIter it a i ∧ h.IsTuple a its.toArray) (Draws.tuple hh it a nia its.toArray) he ⟨by rw [← en]; exact hit, tp⟩ fun h' eb => ⟨rfl, I.turned (t' := s.toks) (fun b o hb q => eb b o hb q) f0 f1 f3 f4 f5⟩
  self := fun A i s Q E st h => let ⟨⟨⟨_, he⟩, _⟩, _⟩ := st; wpAny_pyIter_enum he h
def iEnumT (K : PySem.W.Frag) (ta : TA) : TI := fun σ H R => ta σ H fun vs H1 => ∃ a xs, vs = [.ref a] ∧ SqT K H1 a xs ∧ R (IteT K a xs.length) H1
theorem pi_enumT {X : Cx} {e : Expr} {ta : TA} {p pos tpos : Pos} {elts : List Expr} {kk : Nat} (hg : Gl X "enumerate") (hm : X.mg "enumerate" = none) (ha : PA X [e] ta) (hs : starEach [e] X.env = [(false, eval e X.env)]) :
    PI X (.Tuple elts kk tpos) (.Call (.Name "enumerate" p) [e] [] pos) (iEnumT X.K ta) := by
  refine ⟨fun pins s σ H R I h => Call_ (ld_blt I hg hm boot_enumerate (PyProof.Rows.callWith_type1 (thn (ha.run pos pins s σ H _ I h) fun us s1 ⟨vs, H1, I1, r1, q1⟩ => ?_) hs rfl))⟩
  obtain ⟨a, xs, ex, hq, q⟩ := q1
  subst ex
  obtain ⟨u, rfl, ru⟩ := vals1 r1
  obtain rfl : u = Value.ref a := ru
  obtain ⟨its, rv, tp, hz⟩ := I1.tuple hq
  refine ev_enum_call (begins_tuple a its.toArray) tp fun h1 he hit hk => wpAny_pyIter_enum he ?_
  have I2 : Inv X pins σ H1 { s1 with heap := h1 } := I1.kept (t' := s1.toks) hk
  refine ⟨s1.heap.objs.size + 1, [s1.heap.objs.size + 1, s1.heap.objs.size], _, _, H1, rfl, I2, turn_enumT a (s1.heap.objs.size + 1) s1.heap.objs.size xs.length, ⟨⟨⟨.none, he⟩, ⟨_, hit, rfl, rfl⟩, Nat.succ_ne_self _⟩, Nat.zero_le _⟩, fun b hb => ?_, q⟩
  have up : s1.heap.objs.size ≤ b := by
    rcases List.mem_cons.mp hb with z | z
    · rw [z]; exact Nat.le_succ _
    · rw [List.mem_singleton.mp z]; exact Nat.le_refl _
  exact I1.fpOk up (I1.hok.fresh up)
end Ev

/-! Ev, part G: evaluations of what is walked; list comprehensions. -/
namespace Ev
open PySem L2

def liveAt (n : Nat) (M : Store) : Option (List D) := match M[n]? with
  | some (.lst ds) => some ds
  | some (.frz ds) => some ds
  | _ => none
def itVals (ds : List D) : Iter := fun i _ => some ds[i]?
def itLive (n : Nat) : Iter := fun i M => (liveAt n M).map fun ds => ds[i]?
def itStr (z : Str) : Iter := fun i _ => some (z.cps[i]?.map fun c => .str ⟨#[c]⟩)
def itD (d : D) (M : Store) : Out Iter := match d with
  | .tup ds => .ok (itVals ds) M
  | .ktp ds => .ok (itVals ds) M
  | .str z => .ok (itStr z) M
  | .ref n => (match liveAt n M with
    | some _ => .ok (itLive n) M
    | none => .bad)
  | _ => .bad
def itE (f : EvE) : EvIt := fun eta M => (f eta M).bind itD
def itRg (lo : Int) (n : Nat) : Iter := fun i _ => some (if i < n then some (.int (lo + i)) else none)
def itRange1 (g : EvL) : EvIt := fun eta M => (g eta M).bind fun ds M1 => match ds with
  | [.int j] => if -(2 ^ 62) ≤ j ∧ j < 2 ^ 62 then .ok (itRg 0 j.toNat) M1 else .bad
  | _ => .bad
def itRange2 (g : EvL) : EvIt := fun eta M => (g eta M).bind fun ds M1 => match ds with
  | [.int i, .int j] => if -(2 ^ 62) ≤ i ∧ i < 2 ^ 62 ∧ -(2 ^ 62) ≤ j ∧ j < 2 ^ 62 then .ok (itRg i (j - i).toNat) M1 else .bad
  | _ => .bad
def itRgC (lo c : Int) (n : Nat) : Iter := fun i _ => some (if i < n then some (.int (lo + i * c)) else none)
def itRange3 (g : EvL) : EvIt := fun eta M => (g eta M).bind fun ds M1 => match ds with
  | [.int i, .int j, .int c] => if c ≠ 0 ∧ c.natAbs < 1073741824 ∧ Builtin.Range.small i j c = true ∧ 0 ≤ Builtin.Range.rangeSize i j c then .ok (itRgC i c (Builtin.Range.rangeSize i j c).toNat) M1 else .bad
  | _ => .bad
def itEnumV (ds : List D) : Iter := fun i _ => some (ds[i]?.map fun d => .tup [.int i, d])
def itEnumL (n : Nat) : Iter := fun i M => (liveAt n M).map fun ds => ds[i]?.map fun d => .tup [.int i, d]
def itEnum (g : EvL) : EvIt := fun eta M => (g eta M).bind fun ds M1 => match ds with
  | [.tup es] => .ok (itEnumV es) M1
  | [.ref n] => (match liveAt n M1 with
    | some _ => .ok (itEnumL n) M1
    | none => .bad)
  | _ => .bad

section
variable {G : Gd} {X : Cx} {W : WX} {rho : List Addr} {H : Hp} {M : Store}
theorem live_rep {T : List Addr} {K : PySem.W.Frag} (S : StR K T rho H M) {n : Nat} {ds : List D} {a : Addr} (h : liveAt n M = some ds) (ha : rho[n]? = some a) : ∃ vs, SqL K H a vs ∧ Reps K rho H ds vs := by
  unfold liveAt at h
  split at h
  · rename_i es hm
    simp only [Option.some.injEq] at h; subst h
    obtain ⟨vs, g1, g2⟩ := S.at_ _ a _ ha hm
    exact ⟨vs, SqL.of g1, g2⟩
  · rename_i es hm
    simp only [Option.some.injEq] at h; subst h
    obtain ⟨vs, g1, g2⟩ := S.at_ _ a _ ha hm
    exact ⟨vs, g1.sq, g2⟩
  · cases h
theorem Reps.getN {K : PySem.W.Frag} {ds : List D} {vs : List V} {i : Nat} (r : Reps K rho H ds vs) (h : ds[i]? = none) : vs.length ≤ i := by
  rw [r.length]; exact List.getElem?_eq_none_iff.mp h
/-- a list's own answer, which does not hang on how it is read -/
theorem sql_get {K : PySem.W.Frag} {a : Addr} {vs : List V} {i : Nat} {v : V} (hu : ∀ ys, SqL K H a ys → ys = vs) (h : vs[i]? = some v) : ∀ ys, SqL K H a ys → ys[i]? = some v := fun ys hy => by rw [hu ys hy]; exact h
theorem iter_vals {ds : List D} {a : Addr} {vs : List V} (h1 : SqT G.K H a vs) (h2 : Reps G.K rho H ds vs) : IterR G rho H (itVals ds) (Itt G.K a) := fun r1 H1 M1 i e1 S1 => by
  have q := e1.sq h1
  have rs := Reps.mono e1 _ _ h2
  unfold itVals
  cases e : ds[i]? with
  | none => exact ⟨vs, q, rs.getN e⟩
  | some d =>
    obtain ⟨v, hv, rv⟩ := rs.get e
    refine ⟨⟨vs, v, q, hv⟩, fun x H2 ⟨e2, hx⟩ => ?_⟩
    subst e2
    have := hx vs q
    rw [hv] at this; cases this
    exact ⟨Ext.refl _ _, S1, rv⟩
theorem iter_live {n : Nat} {a : Addr} (ha : rho[n]? = some a) : IterR G rho H (itLive n) (Itl G.K a) := fun r1 H1 M1 i e1 S1 => by
  unfold itLive
  cases e : liveAt n M1 with
  | none => exact True.intro
  | some ds =>
    obtain ⟨vs, q, rs⟩ := live_rep S1 e (e1.get ha)
    simp only [Option.map_some]
    cases e2 : ds[i]? with
    | none => exact ⟨vs, q, rs.getN e2⟩
    | some d =>
      obtain ⟨v, hv, rv⟩ := rs.get e2
      refine ⟨⟨vs, v, q, hv⟩, fun x H2 ⟨e3, hx⟩ => ?_⟩
      subst e3
      have := hx vs q
      rw [hv] at this; cases this
      exact ⟨Ext.refl _ _, S1, rv⟩
theorem iter_str {z : Str} : IterR G rho H (itStr z) (Its z) := fun r1 H1 M1 i e1 S1 => by
  unfold itStr
  cases e : z.cps[i]? with
  | none => exact Array.getElem?_eq_none_iff.mp e
  | some c =>
    simp only [Option.map_some]
    refine ⟨(Array.getElem?_eq_some_iff.mp e).1, fun x H2 ⟨e2, c', hc, hx⟩ => ?_⟩
    subst e2
    rw [e] at hc; cases hc
    exact ⟨Ext.refl _ _, S1, by subst hx; simp [Rep]⟩
theorem iter_rg {lo : Int} {n : Nat} : IterR G rho H (itRg lo n) (Itr lo n) := fun r1 H1 M1 i e1 S1 => by
  unfold itRg
  by_cases h : i < n
  · simp only [if_pos h]
    refine ⟨h, fun x H2 ⟨e2, hx⟩ => ?_⟩
    subst e2
    exact ⟨Ext.refl _ _, S1, by subst hx; simp [Rep]⟩
  · simp only [if_neg h]
    exact Nat.le_of_not_lt h
theorem iter_rgC {lo c : Int} {n : Nat} : IterR G rho H (itRgC lo c n) (Itc lo c n) := fun r1 H1 M1 i e1 S1 => by
  unfold itRgC
  by_cases h : i < n
  · simp only [if_pos h]
    refine ⟨h, fun x H2 ⟨e2, hx⟩ => ?_⟩
    subst e2
    exact ⟨Ext.refl _ _, S1, by subst hx; simp [Rep]⟩
  · simp only [if_neg h]
    exact Nat.le_of_not_lt h
theorem pair_new {K : PySem.W.Frag} {T : List Addr} {i : Nat} {d : D} {v : V} {p : Addr} (S : StR K T rho H M) (hp : H p = none) (rv : Rep K rho H d v) :
    Ext rho H rho (upd H p (.tup [.int (i : Nat), v])) ∧ StR K T rho (upd H p (.tup [.int (i : Nat), v])) M ∧ Rep K rho (upd H p (.tup [.int (i : Nat), v])) (.tup [.int i, d]) (.ref p) := by
  have E : Ext rho H rho (upd H p (.tup [.int (i : Nat), v])) := Ext.laid hp
  refine ⟨E, S.laid hp, ?_⟩
  simp only [Rep]
  exact ⟨p, _, rfl, upd_same, Reps.cons (by simp [Rep]) (Reps.cons (Rep.mono E _ _ rv) Reps.nil)⟩
theorem iter_enumV {ds : List D} {a : Addr} {vs : List V} (h1 : SqT G.K H a vs) (h2 : Reps G.K rho H ds vs) : IterR G rho H (itEnumV ds) (IteT G.K a vs.length) := fun r1 H1 M1 i e1 S1 => by
  have q := e1.sq h1
  have rs := Reps.mono e1 _ _ h2
  unfold itEnumV
  cases e : ds[i]? with
  | none => exact ⟨rs.getN e, vs, q, rfl⟩
  | some d =>
    obtain ⟨v, hv, rv⟩ := rs.get e
    simp only [Option.map_some]
    refine ⟨⟨(List.getElem?_eq_some_iff.mp hv).1, vs, v, q, hv, rfl⟩, fun x H2 ⟨p, y, hx, hp, e2, hy⟩ => ?_⟩
    subst e2; subst hx
    have := hy vs q
    rw [hv] at this; cases this
    exact pair_new S1 hp rv
theorem iter_enumL {n : Nat} {a : Addr} (ha : rho[n]? = some a) : IterR G rho H (itEnumL n) (Ite G.K a) := fun r1 H1 M1 i e1 S1 => by
  unfold itEnumL
  cases e : liveAt n M1 with
  | none => exact True.intro
  | some ds =>
    obtain ⟨vs, q, rs⟩ := live_rep S1 e (e1.get ha)
    simp only [Option.map_some]
    cases e2 : ds[i]? with
    | none => exact ⟨vs, q, rs.getN e2⟩
    | some d =>
      obtain ⟨v, hv, rv⟩ := rs.get e2
      simp only [Option.map_some]
      refine ⟨⟨vs, v, q, hv⟩, fun x H2 ⟨p, y, hx, hp, e3, hy⟩ => ?_⟩
      subst e3; subst hx
      have := hy vs q
      rw [hv] at this; cases this
      exact pair_new S1 hp rv

theorem iv_val {f : EvE} {tg e : Expr} (hK : X.K = G.K) (he : PEv G X W f e) : PIv G X W (itE f) tg e :=
  PI.weak (PI.or (PI.or (pi_list he) (pi_tup he)) (pi_str he)) fun σ H R ⟨eta, M, rho, V, S, P⟩ => by
    unfold itE at P
    cases e1 : f eta M with
    | bad => rw [e1] at P; exact P.elim
    | exc x fs M1 => rw [e1] at P; exact .inl (.inl ⟨eta, M, rho, V, S, by rw [e1]; exact P⟩)
    | ok d M1 =>
      rw [e1] at P
      have P1 : Post G W σ rho H (fun rho' H' J _ => ∀ J', IterR G rho' H' J J' → R J' H') (itD d M1) := P
      cases d <;> simp only [itD] at P1 <;> try exact P1.elim
      · refine .inr ⟨eta, M, rho, V, S, ?_⟩
        rw [e1]
        exact fun r1 H1 e1 S1 v rv => ⟨_, rep_str rv, P1 r1 H1 e1 S1 _ iter_str⟩
      · refine .inl (.inr ⟨eta, M, rho, V, S, ?_⟩)
        rw [e1]
        exact fun r1 H1 e1 S1 v rv => by
          obtain ⟨a, vs, rfl, h1, h2⟩ := rep_tup rv
          rw [hK]
          exact ⟨a, rfl, ⟨vs, SqT.of h1⟩, P1 r1 H1 e1 S1 _ (iter_vals (SqT.of h1) h2)⟩
      · split at P1
        · rename_i ds hl
          refine .inl (.inl ⟨eta, M, rho, V, S, ?_⟩)
          rw [e1]
          exact fun r1 H1 e1 S1 v rv => by
            obtain ⟨a, rfl, ha⟩ := rep_ref rv
            obtain ⟨vs, q, _⟩ := live_rep S1 hl ha
            rw [hK]
            exact ⟨a, rfl, ⟨vs, q⟩, P1 r1 H1 e1 S1 _ (iter_live ha)⟩
        · exact P1.elim
      · refine .inl (.inr ⟨eta, M, rho, V, S, ?_⟩)
        rw [e1]
        exact fun r1 H1 e1 S1 v rv => by
          have rv' := rv
          simp only [Rep] at rv'
          obtain ⟨a, vs, rfl, h1, h2⟩ := rv'
          rw [hK]
          exact ⟨a, rfl, ⟨vs, h1⟩, P1 r1 H1 e1 S1 _ (iter_vals h1 h2)⟩
theorem iv_range1 {g : EvL} {tg a : Expr} {p pos : Pos} (hg : Gl X "range") (hm : X.mg "range" = none) (ha : PLv G X W g [a]) (hs : starEach [a] X.env = [(false, eval a X.env)] := by rfl) : PIv G X W (itRange1 g) tg (.Call (.Name "range" p) [a] [] pos) :=
  PI.weak (pi_range1 hg hm ha hs) fun σ H R ⟨eta, M, rho, V, S, P⟩ => ⟨eta, M, rho, V, S, P.bind.imp fun r1 H1 ds M1 e1 S1 P1 vs rvs => by
    match ds, P1 with
    | [.int j], P1 =>
      simp only at P1
      split at P1
      · rename_i h
        obtain ⟨v, rfl, rv⟩ := rvs.one
        exact ⟨j, by rw [rep_int rv], h.1, h.2, P1.now S1 _ iter_rg⟩
      · exact P1.elim⟩
theorem iv_range2 {g : EvL} {tg a b : Expr} {p pos : Pos} (hg : Gl X "range") (hm : X.mg "range" = none) (ha : PLv G X W g [a, b]) (hs : starEach [a, b] X.env = [(false, eval a X.env), (false, eval b X.env)] := by rfl) (hs2 : starEach [b] X.env = [(false, eval b X.env)] := by rfl) :
    PIv G X W (itRange2 g) tg (.Call (.Name "range" p) [a, b] [] pos) :=
  PI.weak (pi_range2 hg hm ha hs hs2) fun σ H R ⟨eta, M, rho, V, S, P⟩ => ⟨eta, M, rho, V, S, P.bind.imp fun r1 H1 ds M1 e1 S1 P1 vs rvs => by
    match ds, P1 with
    | [.int i, .int j], P1 =>
      simp only at P1
      split at P1
      · rename_i h
        obtain ⟨v, w, rfl, rv, rw'⟩ := rvs.two
        exact ⟨i, j, by rw [rep_int rv, rep_int rw'], h, P1.now S1 _ iter_rg⟩
      · exact P1.elim⟩
theorem iv_range3 {g : EvL} {tg a b c : Expr} {p pos : Pos} (hg : Gl X "range") (hm : X.mg "range" = none) (ha : PLv G X W g [a, b, c])
    (hs : starEach [a, b, c] X.env = (false, eval a X.env) :: starEach [b, c] X.env := by rfl) (hpl : (backTo pos (starEach [b, c] X.env)).any (·.1) = false := by rfl) : PIv G X W (itRange3 g) tg (.Call (.Name "range" p) [a, b, c] [] pos) :=
  PI.weak (pi_range3 hg hm ha hs hpl) fun σ H R ⟨eta, M, rho, V, S, P⟩ => ⟨eta, M, rho, V, S, P.bind.imp fun r1 H1 ds M1 e1 S1 P1 vs rvs => by
    match ds, P1 with
    | [.int i, .int j, .int c], P1 =>
      simp only at P1
      split at P1
      · rename_i h
        obtain ⟨v, w, u, rfl, rv, rw', ru⟩ := rvs.three
        exact ⟨i, j, c, _, by rw [rep_int rv, rep_int rw', rep_int ru], ⟨h.1, h.2.1, h.2.2.1, (Int.toNat_of_nonneg h.2.2.2).symm⟩, P1.now S1 _ iter_rgC⟩
      · exact P1.elim⟩
theorem iv_enum {g : EvL} {e : Expr} {p pos tpos : Pos} {elts : List Expr} {kk : Nat} (hK : X.K = G.K) (hg : Gl X "enumerate") (hm : X.mg "enumerate" = none) (ha : PLv G X W g [e]) (hs : starEach [e] X.env = [(false, eval e X.env)] := by rfl) :
    PIv G X W (itEnum g) (.Tuple elts kk tpos) (.Call (.Name "enumerate" p) [e] [] pos) :=
  PI.weak (PI.or (pi_enum hg hm ha hs) (pi_enumT hg hm ha hs)) fun σ H R ⟨eta, M, rho, V, S, P⟩ => by
    unfold itEnum at P
    cases e1 : g eta M with
    | bad => rw [e1] at P; exact P.elim
    | exc x fs M1 => rw [e1] at P; exact .inl ⟨eta, M, rho, V, S, by rw [e1]; exact P⟩
    | ok ds M1 =>
      rw [e1] at P
      simp only [Out.bind] at P
      match ds, P with
      | [.tup es], P =>
        refine .inr ⟨eta, M, rho, V, S, ?_⟩
        rw [e1]
        exact fun r1 H1 e1 S1 vs rvs => by
          obtain ⟨v, rfl, rv⟩ := rvs.one
          obtain ⟨a, vs, rfl, h1, h2⟩ := rep_tup rv
          rw [hK]
          exact ⟨a, vs, rfl, SqT.of h1, P r1 H1 e1 S1 _ (iter_enumV (SqT.of h1) h2)⟩
      | [.ref n], P =>
        simp only at P
        split at P
        · rename_i ds hl
          refine .inl ⟨eta, M, rho, V, S, ?_⟩
          rw [e1]
          exact fun r1 H1 e1 S1 vs rvs => by
            obtain ⟨v, rfl, rv⟩ := rvs.one
            obtain ⟨a, rfl, ha⟩ := rep_ref rv
            obtain ⟨vs, q, _⟩ := live_rep S1 hl ha
            rw [hK]
            exact ⟨a, vs, rfl, q, P r1 H1 e1 S1 _ (iter_enumL ha)⟩
        · exact P.elim

/-! ### list comprehensions -/
abbrev Wno : WX := fun _ _ _ _ => False
/-- the block lets nothing out -/
def noX {α : Type} (o : Out α) : Out α := match o with
  | .exc _ _ _ => .bad
  | o => o
def wipeE (eta : Env) : List Nat → Env
  | [] => eta
  | v :: vs => (wipeE eta vs).set v none
def tYesE : EvT := fun _ M => .ok true M
/-- one turn's end: the member is put to the list at n -/
def putAt (n : Nat) (d : D) (M : Store) : Option Store := match M[n]? with
  | some (.lst acc) => if acc.length < cap then some (M.set n (.lst (acc ++ [d]))) else none
  | _ => none
def lcLoop (J : Iter) (t : Tgt) (vs : List Nat) (c : EvT) (f : EvE) (eta : Env) (n : Nat) : Nat → Nat → Store → Out D
  | 0, _, _ => .bad
  | m + 1, i, M => match J i M with
    | none => .bad
    | some none => .ok (.ref n) M
    | some (some d) => (match asg M t d (wipeE eta vs) with
      | none => .bad
      | some eta1 => (noX (c eta1 M)).bind fun b M2 => if b = true then (noX (f eta1 M2)).bind fun y M3 => (match putAt n y M3 with
          | none => .bad
          | some M4 => lcLoop J t vs c f eta n m (i + 1) M4) else lcLoop J t vs c f eta n m (i + 1) M2)
def eLc (it : EvIt) (t : Tgt) (vs : List Nat) (c : EvT) (f : EvE) : EvE := fun eta M => (it eta M).bind fun J M1 => lcLoop J t vs c f eta M1.length FUEL 0 (M1 ++ [.lst []])

theorem noX_post {α : Type} {σ τ : St} {Good : Kont α} {W' : WX} {o : Out α} (h : Post G W σ rho H Good (noX o)) : Post G W' τ rho H Good o := by
  cases o with
  | ok a M => exact h
  | exc x fs M => exact h.elim
  | bad => exact h
theorem wipeE_len (eta : Env) : ∀ vs, (wipeE eta vs).length = eta.length
  | [] => rfl
  | v :: vs => by simp [wipeE, wipeE_len eta vs]
theorem EnvR.wipe {K : PySem.W.Frag} {eta : Env} {σ : St} (V : EnvR K rho H eta σ) : ∀ vs, EnvR K rho H (wipeE eta vs) (L2.wipe σ vs)
  | [] => V
  | v :: vs => by
    have ih := EnvR.wipe V vs
    refine ⟨by simp [wipeE, wipeE_len, wipe_length, V.len], fun i d h => ?_⟩
    simp only [wipeE] at h
    by_cases hi : i = v
    · subst hi
      have hl : i < (wipeE eta vs).length := by
        have := (List.getElem?_eq_some_iff.mp h).1
        simpa using this
      rw [List.getElem?_set_self hl] at h
      cases h
    · rw [List.getElem?_set_ne (Ne.symm hi)] at h
      obtain ⟨w, h1, h2⟩ := ih.at_ i d h
      exact ⟨w, by simp only [L2.wipe]; rw [List.getElem?_set_ne (Ne.symm hi)]; exact h1, h2⟩
theorem putAt_rep {T : List Addr} {K : PySem.W.Frag} (S : StR K T rho H M) {n : Nat} {d : D} {v : V} {M4 : Store} {a : Addr} (h : putAt n d M = some M4) (ha : rho[n]? = some a) (rv : Rep K rho H d v) :
    ∃ acc, H a = some (.lst acc) ∧ acc.length < sizeLine ∧ Ext rho H rho (upd H a (.lst (acc ++ [v]))) ∧ StR K T rho (upd H a (.lst (acc ++ [v]))) M4 := by
  unfold putAt at h
  split at h
  · rename_i acc hm
    split at h
    · rename_i hl
      simp only [Option.some.injEq] at h
      subst h
      obtain ⟨vs, g1, g2⟩ := S.at_ _ a _ ha hm
      have E : Ext rho H rho (upd H a (.lst (vs ++ [v]))) := Ext.write (by rw [g1]; trivial)
      exact ⟨vs, g1, by rw [g2.length, ← cap_eq]; exact hl, E, S.write ha hm rfl rfl ⟨_, upd_same, (Reps.mono E _ _ g2).append (Reps.cons (Rep.mono E _ _ rv) Reps.nil)⟩⟩
    · cases h
  · cases h
def PTsv (G : Gd) (X : Cx) (f : EvT) (cs : List Expr) : Prop := PTs X cs (tT G Wno f)
theorem PTs.weak {cs : List Expr} {t t' : TT} (h : PTs X cs t) (k : ∀ σ H Q, t' σ H Q → t σ H Q) : PTs X cs t' := ⟨fun pins s σ H Q I q => h.run pins s σ H Q I (k σ H Q q)⟩
theorem tsv_nil : PTsv G X tYesE [] := PTs.weak pts_nil fun σ H Q ⟨eta, M, rho, V, S, P⟩ => P.now S
theorem tsv_one {f : EvT} {c : Expr} (h : PTv G X Wno f c) : PTsv G X f [c] := pts_one h
theorem lc_sound {it : EvIt} {t : Tgt} {vs : List Nat} {c : EvT} {f : EvE} (hsl : ∀ i ∈ t.slots, i ∈ vs) {σ : St} {Q : VK} (h : tE G W (eLc it t vs c f) σ H Q) :
    tLc (tI G W it) (tG G t) (tT G Wno c) (tE G Wno f) vs σ H Q := by
  obtain ⟨eta, M, rho, V, S, P⟩ := h
  refine ⟨eta, M, rho, V, S, P.bind.imp fun r1 H1 J M1 e1 S1 P1 J' R D hD => ?_⟩
  have E0 : Ext r1 H1 (r1 ++ [D]) (upd H1 D (.lst [])) := (Ext.laid hD).trans Ext.grow
  have S0 : StR G.K G.T (r1 ++ [D]) (upd H1 D (.lst [])) (M1 ++ [.lst []]) := S1.alloc hD ⟨[], upd_same, Reps.nil⟩
  have hDn : (r1 ++ [D])[M1.length]? = some D := by rw [← S1.len, List.getElem?_append_right (Nat.le_refl _)]; simp
  refine ⟨fun i m H' => ∃ M' rho', Ext (r1 ++ [D]) (upd H1 D (.lst [])) rho' H' ∧ StR G.K G.T rho' H' M' ∧ Post G W σ rho' H' (GoodD G.K Q) (lcLoop J t vs c f eta M1.length m i M'), ⟨FUEL, _, _, Ext.refl _ _, S0, P1.ext E0⟩, ?_⟩
  rintro i m H' ⟨M', rho', E1, S', P'⟩
  have E01 := E0.trans E1
  cases m with
  | zero => exact P'.elim
  | succ m =>
    simp only [lcLoop] at P'
    have Rj := R rho' H' M' i E01 S'
    split at P'
    · exact P'.elim
    · rename_i hJ
      rw [hJ] at Rj
      refine .inl ⟨Rj, P'.now S' _ ?_⟩
      simp only [Rep]
      exact ⟨D, rfl, E1.get hDn⟩
    · rename_i d hJ
      rw [hJ] at Rj
      obtain ⟨go, yl⟩ := Rj
      refine .inr ⟨go, fun H2 => ∃ M' rho', Ext (r1 ++ [D]) (upd H1 D (.lst [])) rho' H2 ∧ StR G.K G.T rho' H2 M' ∧ Post G W σ rho' H2 (GoodD G.K Q) (lcLoop J t vs c f eta M1.length m (i + 1) M'), fun H2 h' => ⟨m, Nat.lt_succ_self m, h'⟩, fun x H2 hy => ?_⟩
      obtain ⟨e3, S3, rx⟩ := yl x H2 hy
      split at P'
      · exact P'.elim
      · rename_i eta1 ha
        have V3 : EnvR G.K rho' H2 (wipeE eta vs) (wipe σ vs) := (((V.mono e1).mono E01).mono e3).wipe vs
        refine ⟨wipeE eta vs, M', rho', d, eta1, V3, S3, rx, ha, fun σ2 V2 w2 => ⟨?_, eta1, M', rho', V2, S3, noX_post (σ := σ) ((P'.ext e3).bind.imp fun r4 H4 b M4 e4 S4 P4 => ?_)⟩⟩
        · rw [w2 vs hsl]
          have ww : ∀ (us : List Nat) (τ : St), (∀ i ∈ us, τ[i]? = some none ∨ τ.length ≤ i) → wipe τ us = τ := by
            intro us
            induction us with
            | nil => intro τ _; rfl
            | cons u us ih =>
              intro τ h
              simp only [wipe]
              rw [ih τ fun i hi => h i (List.mem_cons_of_mem _ hi)]
              rcases h u List.mem_cons_self with hu | hu
              · have hl := (List.getElem?_eq_some_iff.mp hu).1
                have hv := (List.getElem?_eq_some_iff.mp hu).2
                conv => lhs; rw [← hv]
                exact List.set_getElem_self hl
              · exact List.set_eq_of_length_le hu
          refine ww vs _ fun i hi => ?_
          have mem_none : ∀ (us : List Nat) (τ : St), i ∈ us → (wipe τ us)[i]? = some none ∨ (wipe τ us).length ≤ i := by
            intro us
            induction us with
            | nil => intro τ h; cases h
            | cons u us ih =>
              intro τ h
              simp only [wipe]
              by_cases hu : i = u
              · subst hu
                by_cases hl : i < (wipe τ us).length
                · left; rw [List.getElem?_set_self hl]
                · right; simp; omega
              · rcases List.mem_cons.mp h with z | z
                · exact absurd z hu
                · rcases ih τ z with q | q
                  · left; rw [List.getElem?_set_ne (Ne.symm hu)]; exact q
                  · right; simpa using q
          exact mem_none vs σ hi
        · have E4 : Ext (r1 ++ [D]) (upd H1 D (.lst [])) r4 H4 := (E1.trans e3).trans e4
          cases b with
          | false => exact ⟨M4, r4, E4, S4, P4⟩
          | true =>
            refine ⟨eta1, M4, r4, V2.mono e4, S4, noX_post (σ := σ) (P4.bind.imp fun r5 H5 y M5 e5 S5 P5 v rv => ?_)⟩
            split at P5
            · exact P5.elim
            · rename_i M6 hp
              obtain ⟨acc, g1, g2, g3, g4⟩ := putAt_rep S5 hp ((E4.trans e5).get hDn) rv
              exact ⟨acc, g1, g2, M6, r5, (E4.trans e5).trans g3, g4, P5.ext g3⟩
/-- what a comprehension's block is made of, in whatever block it runs -/
abbrev InBlk (X : Cx) (scope : Scope) (P : Cx → Prop) : Prop := ∀ (s : Shared) (H : Hp) (C : Addr) (cl : List (Str × Addr)) (fp : List Addr), P (X.blk s H scope (compEnvC scope cl C X.env) fp)
theorem ev_lc {it : EvIt} {t : Tgt} {c : EvT} {f : EvE} {own : List (Str × Nat)} {elt tg iter : Expr} {ifs : List Expr} {scope : Scope} {pos : Pos} (hc : X.calm = true) (hN : X.N.Nodup) (hi : PIv G X W it tg iter) (ok : BlkOk X.N X.env.scope scope own)
    (hg : InBlk X scope fun Y => PGv G Y t tg) (ht : InBlk X scope fun Y => PTsv G Y c ifs) (he : InBlk X scope fun Y => PEv G Y Wno f elt) (hsl : ∀ i ∈ t.slots, i ∈ own.map (·.2)) (hs : ∀ x, foldedSetIterable iter X.env x = pure x := by intro _; rfl) :
    PEv G X W (eLc it t (own.map (·.2)) c f) (.ListComp elt [⟨tg, iter, ifs, 0⟩] scope pos) :=
  PE.weak (pe_lc hc hN hi ok hg ht he hs) fun σ H Q h => lc_sound hsl h
/-- name = [..] on one line, the name a local -/
theorem sv_setLc {i : Nat} {y : Str} {py : Pos} {it : EvIt} {t : Tgt} {c : EvT} {f : EvE} {own : List (Str × Nat)} {elt tg iter : Expr} {ifs : List Expr} {scope : Scope} {pos spos : Pos} (hc : X.calm = true) (hN : X.N.Nodup) (hi : PIv G X W it tg iter) (ok : BlkOk X.N X.env.scope scope own)
    (hg : InBlk X scope fun Y => PGv G Y t tg) (ht : InBlk X scope fun Y => PTsv G Y c ifs) (he : InBlk X scope fun Y => PEv G Y Wno f elt) (hsl : ∀ i ∈ t.slots, i ∈ own.map (·.2)) (hy : X.N[i]? = some y := by rfl) (hyl : X.env.scope.names.lookup y = some .local := by rfl)
    (hsw : swapsWith (.ListComp elt [⟨tg, iter, ifs, 0⟩] scope pos) (some (.Name y py)) spos.line X.env = pure true := by rfl) (hs : ∀ x, foldedSetIterable iter X.env x = pure x := by intro _; rfl) :
    PSv G X W (sAsg (.nm i) (eLc it t (own.map (·.2)) c f)) (.Assign [.Name y py] (.ListComp elt [⟨tg, iter, ifs, 0⟩] scope pos) spos) :=
  PS.weak (ps_setLc hc hN hy hyl hsw hi ok hg ht he hs) fun E σ H ⟨eta, M, rho, V, S, P⟩ => by
    refine lc_sound hsl ⟨eta, M, rho, V, S, (P.bindE V).imp fun r1 H1 d M1 e1 S1 P1 v rv => ?_⟩
    exact P1 r1 H1 _ (Ext.refl _ _) S1 ((V.mono e1).set i rv)
end
end Ev

/-! Ev, part H: built-in functions and methods, dict displays, stores. -/
namespace Ev
open PySem L2

/-- a call's arguments, then the built-in -/
def eB (f : List D → Store → Out D) (g : EvL) : EvE := fun eta M => (g eta M).bind f
def CallS (G : Gd) (f : List D → Store → Out D) (r : List V → Hp → VK → Prop) : Prop :=
  ∀ (W : WX) (σ : St) (rho : List Addr) (H : Hp) (M : Store) (ds : List D) (vs : List V) (Q : VK), StR G.K G.T rho H M → Reps G.K rho H ds vs → Post G W σ rho H (GoodD G.K Q) (f ds M) → r vs H Q
section
variable {G : Gd} {X : Cx} {W : WX}
theorem ev_callB {f : List D → Store → Out D} {r : List V → Hp → VK → Prop} {g : EvL} {id : String} {x : Str} {p pos : Pos} {e : Expr} {es : List Expr} (hc : CallR X (.builtin id) r) (hs : CallS G f r) (hg : Gl X x) (hm : X.mg x = none) (hv : bootBuiltins x = some (.builtin id)) (ha : PLv G X W g (e :: es))
    (hn : x ≠ "__name__" := by decide) (hdb : (x == ("__debug__" : Str)) = false := by decide) (he : starEach (e :: es) X.env = (false, eval e X.env) :: starEach es X.env := by rfl) (hpl : (backTo pos (starEach es X.env)).any (·.1) = false := by rfl) :
    PEv G X W (eB f g) (.Call (.Name x p) (e :: es) [] pos) :=
  PE.weak (pe_callB hc hg hm hv ha hn hdb he hpl) fun σ H Q ⟨eta, M, rho, V, S, P⟩ => ⟨eta, M, rho, V, S, P.bind.imp fun r1 H1 ds M1 e1 S1 P1 vs rvs => hs W σ r1 H1 M1 ds vs Q S1 rvs P1⟩
theorem ev_callTy {f : List D → Store → Out D} {r : List V → Hp → VK → Prop} {g : EvL} {T : String} {x : Str} {p pos : Pos} {e : Expr} {es : List Expr} (hc : CallR X (.type T) r) (hs : CallS G f r) (hg : Gl X x) (hm : X.mg x = none) (hv : bootBuiltins x = some (.type T)) (ha : PLv G X W g (e :: es))
    (hn : x ≠ "__name__" := by decide) (hdb : (x == ("__debug__" : Str)) = false := by decide) (he : starEach (e :: es) X.env = (false, eval e X.env) :: starEach es X.env := by rfl) (hpl : (backTo pos (starEach es X.env)).any (·.1) = false := by rfl) :
    PEv G X W (eB f g) (.Call (.Name x p) (e :: es) [] pos) :=
  PE.weak (pe_callTy hc hg hm hv ha hn hdb he hpl) fun σ H Q ⟨eta, M, rho, V, S, P⟩ => ⟨eta, M, rho, V, S, P.bind.imp fun r1 H1 ds M1 e1 S1 P1 vs rvs => hs W σ r1 H1 M1 ds vs Q S1 rvs P1⟩
end

/-! ### functions -/
def bAbs (ds : List D) (M : Store) : Out D := match ds with
  | [.int i] => .ok (.int (if i < 0 then -i else i)) M
  | _ => .bad
def bInt (ds : List D) (M : Store) : Out D := match ds with
  | [.int i] => .ok (.int i) M
  | [.bl b] => .ok (.int (if b then 1 else 0)) M
  | _ => .bad
def bLen (ds : List D) (M : Store) : Out D := match ds with
  | [.tup es] => .ok (.int es.length) M
  | [.str z] => if z.length ≤ cap then .ok (.int z.length) M else .bad
  | [.ref n] => (match M[n]? with
    | some (.lst es) => .ok (.int es.length) M
    | some (.frz es) => .ok (.int es.length) M
    | some (.dicK es) => .ok (.int es.length) M
    | some (.dicT es) => .ok (.int es.length) M
    | _ => .bad)
  | _ => .bad
/-- the ints of a list of values -/
def intsD : List D → Option (List Int)
  | [] => some []
  | .int i :: ds => (intsD ds).map (i :: ·)
  | _ => none
def blsD : List D → Option (List Bool)
  | [] => some []
  | .bl i :: ds => (blsD ds).map (i :: ·)
  | _ => none
def listMax : List Int → Int
  | [] => 0
  | [x] => x
  | x :: xs => max x (listMax xs)
def listMin : List Int → Int
  | [] => 0
  | [x] => x
  | x :: xs => min x (listMin xs)
def bMax (ds : List D) (M : Store) : Out D := match ds with
  | [.int i, .int j] => .ok (.int (if j > i then j else i)) M
  | [.ref n] => (match liveAt n M with
    | some es => (match intsD es with
      | some ns => if 0 < ns.length then .ok (.int (listMax ns)) M else .bad
      | none => .bad)
    | none => .bad)
  | _ => .bad
def bMin (ds : List D) (M : Store) : Out D := match ds with
  | [.int i, .int j] => .ok (.int (if j < i then j else i)) M
  | [.ref n] => (match liveAt n M with
    | some es => (match intsD es with
      | some ns => if 0 < ns.length then .ok (.int (listMin ns)) M else .bad
      | none => .bad)
    | none => .bad)
  | _ => .bad
def bSum (ds : List D) (M : Store) : Out D := match ds with
  | [.ref n] => (match liveAt n M with
    | some es => (match intsD es with
      | some ns => .ok (.int ns.sum) M
      | none => .bad)
    | none => .bad)
  | _ => .bad
def bAll (ds : List D) (M : Store) : Out D := match ds with
  | [.ref n] => (match liveAt n M with
    | some es => (match blsD es with
      | some ns => .ok (.bl (ns.all id)) M
      | none => .bad)
    | none => .bad)
  | _ => .bad
def bAny (ds : List D) (M : Store) : Out D := match ds with
  | [.ref n] => (match liveAt n M with
    | some es => (match blsD es with
      | some ns => .ok (.bl (ns.any id)) M
      | none => .bad)
    | none => .bad)
  | _ => .bad
def bTuple (ds : List D) (M : Store) : Out D := match ds with
  | [.tup es] => .ok (.tup es) M
  | [.ref n] => (match liveAt n M with
    | some es => .ok (.tup es) M
    | none => .bad)
  | _ => .bad
def bList (ds : List D) (M : Store) : Out D := match ds with
  | [.tup es] => .ok (.ref M.length) (M ++ [.lst es])
  | [.ref n] => (match liveAt n M with
    | some es => .ok (.ref M.length) (M ++ [.lst es])
    | none => .bad)
  | _ => .bad
def bRepr (ds : List D) (M : Store) : Out D := match ds with
  | [d] => (match toPy M 6 d with
    | some p => if p.showable = true ∧ p.hasDict = false ∧ p.depth ≤ 150 ∧ p.shown.length ≤ cap then .ok (.str p.shown) M else .bad
    | none => .bad)
  | _ => .bad
/-- the built-in class of a value -/
def tyOf (M : Store) : D → Option String
  | .non => some "NoneType"
  | .bl _ => some "bool"
  | .int _ => some "int"
  | .str _ => some "str"
  | .tup _ => some "tuple"
  | .ref n => (match M[n]? with
    | some (.lst _) => some "list"
    | some (.dicK _) => some "dict"
    | some (.dicT _) => some "dict"
    | _ => none)
  | _ => none
def csts : List D → Option (List String)
  | [] => some []
  | .cst (.ty n) :: ds => (csts ds).map (n :: ·)
  | _ => none
def kitAll (a : String) : List String → Option Bool
  | [] => some false
  | b :: bs => match kitB a b with
    | some true => some true
    | some false => kitAll a bs
    | none => none
/-- isinstance(x, T), isinstance(x, (T, ..)), T built-in -/
def bIsi (ds : List D) (M : Store) : Out D := match ds with
  | [x, .cst (.ty b)] => (match tyOf M x with
    | some a => (match kitB a b with
      | some k => .ok (.bl k) M
      | none => .bad)
    | none => .bad)
  | [x, .tup cs] => (match tyOf M x, csts cs with
    | some a, some bs => (match kitAll a bs with
      | some k => .ok (.bl k) M
      | none => .bad)
    | _, _ => .bad)
  | _ => .bad

section
variable {G : Gd} {X : Cx} {W : WX} {rho : List Addr} {H : Hp} {M : Store}
theorem intsD_rep {K : PySem.W.Frag} : ∀ {ds : List D} {ns : List Int} {vs : List V}, intsD ds = some ns → Reps K rho H ds vs → vs = ns.map V.int
  | [], ns, vs, h, r => by simp only [intsD, Option.some.injEq] at h; simp only [Reps] at r; subst h r; rfl
  | d :: ds, ns, vs, h, r => by
    cases d <;> simp only [intsD, Option.map_eq_some_iff] at h <;> try cases h
    rename_i i ks h
    simp only [Reps] at r
    obtain ⟨v, ws, rfl, r1, r2⟩ := r
    rw [rep_int r1, intsD_rep h.1 r2, ← h.2]; rfl
theorem blsD_rep {K : PySem.W.Frag} : ∀ {ds : List D} {ns : List Bool} {vs : List V}, blsD ds = some ns → Reps K rho H ds vs → vs = ns.map V.bl
  | [], ns, vs, h, r => by simp only [blsD, Option.some.injEq] at h; simp only [Reps] at r; subst h r; rfl
  | d :: ds, ns, vs, h, r => by
    cases d <;> simp only [blsD, Option.map_eq_some_iff] at h <;> try cases h
    rename_i i ks h
    simp only [Reps] at r
    obtain ⟨v, ws, rfl, r1, r2⟩ := r
    rw [rep_bl r1, blsD_rep h.1 r2, ← h.2]; rfl
theorem listMax_spec : ∀ {ns : List Int}, 0 < ns.length → listMax ns ∈ ns ∧ ∀ y ∈ ns, y ≤ listMax ns
  | [], h => by simp at h
  | [x], _ => by simp [listMax]
  | x :: y :: r, _ => by
    have ih := listMax_spec (ns := y :: r) (by simp)
    have e : listMax (x :: y :: r) = max x (listMax (y :: r)) := rfl
    rw [e]
    refine ⟨?_, fun z hz => ?_⟩
    · by_cases h : x ≤ listMax (y :: r)
      · rw [Int.max_eq_right h]; exact List.mem_cons_of_mem _ ih.1
      · rw [Int.max_eq_left (by omega)]; exact List.mem_cons_self
    · rcases List.mem_cons.mp hz with q | q
      · subst q; exact Int.le_max_left _ _
      · exact Int.le_trans (ih.2 z q) (Int.le_max_right _ _)
theorem listMin_spec : ∀ {ns : List Int}, 0 < ns.length → listMin ns ∈ ns ∧ ∀ y ∈ ns, listMin ns ≤ y
  | [], h => by simp at h
  | [x], _ => by simp [listMin]
  | x :: y :: r, _ => by
    have ih := listMin_spec (ns := y :: r) (by simp)
    have e : listMin (x :: y :: r) = min x (listMin (y :: r)) := rfl
    rw [e]
    refine ⟨?_, fun z hz => ?_⟩
    · by_cases h : x ≤ listMin (y :: r)
      · rw [Int.min_eq_left h]; exact List.mem_cons_self
      · rw [Int.min_eq_right (by omega)]; exact List.mem_cons_of_mem _ ih.1
    · rcases List.mem_cons.mp hz with q | q
      · subst q; exact Int.min_le_left _ _
      · exact Int.le_trans (Int.min_le_right _ _) (ih.2 z q)

def rAbsV : List V → Hp → VK → Prop := fun xs H Q => ∃ i, xs = [.int i] ∧ Q (.int (if i < 0 then -i else i)) H
theorem cr_absV : CallR X (.builtin "abs") rAbsV := call_abs
theorem cs_abs : CallS G bAbs rAbsV := by
  intro W σ rho H M ds vs Q S r P
  match ds, P with
  | [.int i], P =>
    obtain ⟨v, rfl, rv⟩ := r.one
    exact ⟨i, by rw [rep_int rv], good_int S P⟩
def rIntV : List V → Hp → VK → Prop := fun xs H Q => (∃ i, xs = [.int i] ∧ Q (.int i) H) ∨ ∃ k, xs = [.bl k] ∧ Q (.int (if k then 1 else 0)) H
theorem cr_intV : CallR X (.type "int") rIntV := call_int1
theorem cs_int : CallS G bInt rIntV := by
  intro W σ rho H M ds vs Q S r P
  match ds, P with
  | [.int i], P =>
    obtain ⟨v, rfl, rv⟩ := r.one
    exact .inl ⟨i, by rw [rep_int rv], good_int S P⟩
  | [.bl b], P =>
    obtain ⟨v, rfl, rv⟩ := r.one
    exact .inr ⟨b, by rw [rep_bl rv], good_int S P⟩
def rLenV (K : PySem.W.Frag) : List V → Hp → VK → Prop := fun xs H Q => (∃ x n, xs = [x] ∧ LenV K x H n ∧ Q (.int n) H) ∨ ((∃ a kvs, xs = [V.ref a] ∧ H a = some (.dK kvs) ∧ Q (.int kvs.length) H) ∨ rLenT xs H Q)
theorem cr_lenV : CallR X (.builtin "len") (rLenV X.K) := call_len.or (call_lenD.or call_len_dT)
theorem cs_len (hK : X.K = G.K) : CallS G bLen (rLenV X.K) := by
  rw [hK]
  intro W σ rho H M ds vs Q S r P
  match ds, P with
  | [.tup es], P =>
    obtain ⟨v, rfl, rv⟩ := r.one
    obtain ⟨a, ws, rfl, h1, h2⟩ := rep_tup rv
    exact .inl ⟨_, _, rfl, .inr ⟨ws, SqT.of h1, rfl⟩, by rw [h2.length]; exact good_int S P⟩
  | [.str z], P =>
    obtain ⟨v, rfl, rv⟩ := r.one
    cases rep_str rv
    simp only [bLen] at P
    split at P
    · rename_i h; exact .inl ⟨_, _, rfl, ⟨by rw [← cap_eq]; exact h, rfl⟩, good_int S P⟩
    · exact P.elim
  | [.ref n], P =>
    obtain ⟨v, rfl, rv⟩ := r.one
    obtain ⟨a, rfl, ha⟩ := rep_ref rv
    simp only [bLen] at P
    split at P
    · rename_i es hm
      obtain ⟨ws, g1, g2⟩ := S.at_ _ a _ ha hm
      exact .inl ⟨_, _, rfl, .inl ⟨ws, SqL.of g1, rfl⟩, by rw [g2.length]; exact good_int S P⟩
    · rename_i es hm
      obtain ⟨ws, g1, g2⟩ := S.at_ _ a _ ha hm
      exact .inl ⟨_, _, rfl, .inl ⟨ws, g1.sq, rfl⟩, by rw [g2.length]; exact good_int S P⟩
    · rename_i es hm
      obtain ⟨ws, g1, g2⟩ := S.at_ _ a _ ha hm
      have e := g2.2.length
      simp only [List.length_map] at e
      exact .inr (.inl ⟨a, ws, rfl, g1, by rw [e]; exact good_int S P⟩)
    · rename_i es hm
      obtain ⟨ws, g1, g2⟩ := S.at_ _ a _ ha hm
      have e := g2.2.length
      simp only [List.length_map] at e
      exact .inr (.inr ⟨a, ws, rfl, g1, by rw [e]; exact good_int S P⟩)
    · exact P.elim
def rMaxV (K : PySem.W.Frag) : List V → Hp → VK → Prop := fun xs H Q => (∃ i j, xs = [.int i, .int j] ∧ Q (.int (if j > i then j else i)) H) ∨ rMax K xs H Q
theorem cr_maxV (hc : X.calm = true) : CallR X (.builtin "max") (rMaxV X.K) := (call_max2 hc).or (cr_max hc)
def rMinV (K : PySem.W.Frag) : List V → Hp → VK → Prop := fun xs H Q => (∃ i j, xs = [.int i, .int j] ∧ Q (.int (if j < i then j else i)) H) ∨ rMin K xs H Q
theorem cr_minV (hc : X.calm = true) : CallR X (.builtin "min") (rMinV X.K) := (call_min2 hc).or (cr_min hc)
theorem live_ints {n : Nat} {a : Addr} {es : List D} {ns : List Int} {K : PySem.W.Frag} {T : List Addr} (S : StR K T rho H M) (ha : rho[n]? = some a) (hl : liveAt n M = some es) (hi : intsD es = some ns) : SqL K H a (ns.map V.int) := by
  obtain ⟨vs, q, rs⟩ := live_rep S hl ha
  rw [intsD_rep hi rs] at q; exact q
theorem cs_max (hK : X.K = G.K) : CallS G bMax (rMaxV X.K) := by
  rw [hK]
  intro W σ rho H M ds vs Q S r P
  match ds, P with
  | [.int i, .int j], P =>
    obtain ⟨v, w, rfl, rv, rw'⟩ := r.two
    exact .inl ⟨i, j, by rw [rep_int rv, rep_int rw'], good_int S P⟩
  | [.ref n], P =>
    obtain ⟨v, rfl, rv⟩ := r.one
    obtain ⟨a, rfl, ha⟩ := rep_ref rv
    simp only [bMax] at P
    split at P
    · rename_i es hl
      split at P
      · rename_i ns hi
        split at P
        · rename_i h0
          refine .inr ⟨a, ns, rfl, live_ints S ha hl hi, h0, fun m hm hmx => ?_⟩
          have sp := listMax_spec h0
          have e : m = listMax ns := Int.le_antisymm (sp.2 m hm) (hmx _ sp.1)
          rw [e]; exact good_int S P
        · exact P.elim
      · exact P.elim
    · exact P.elim
theorem cs_min (hK : X.K = G.K) : CallS G bMin (rMinV X.K) := by
  rw [hK]
  intro W σ rho H M ds vs Q S r P
  match ds, P with
  | [.int i, .int j], P =>
    obtain ⟨v, w, rfl, rv, rw'⟩ := r.two
    exact .inl ⟨i, j, by rw [rep_int rv, rep_int rw'], good_int S P⟩
  | [.ref n], P =>
    obtain ⟨v, rfl, rv⟩ := r.one
    obtain ⟨a, rfl, ha⟩ := rep_ref rv
    simp only [bMin] at P
    split at P
    · rename_i es hl
      split at P
      · rename_i ns hi
        split at P
        · rename_i h0
          refine .inr ⟨a, ns, rfl, live_ints S ha hl hi, h0, fun m hm hmx => ?_⟩
          have sp := listMin_spec h0
          have e : m = listMin ns := Int.le_antisymm (hmx _ sp.1) (sp.2 m hm)
          rw [e]; exact good_int S P
        · exact P.elim
      · exact P.elim
    · exact P.elim
theorem cs_sum (hK : X.K = G.K) : CallS G bSum (rSum X.K) := by
  rw [hK]
  intro W σ rho H M ds vs Q S r P
  match ds, P with
  | [.ref n], P =>
    obtain ⟨v, rfl, rv⟩ := r.one
    obtain ⟨a, rfl, ha⟩ := rep_ref rv
    simp only [bSum] at P
    split at P
    · rename_i es hl
      split at P
      · rename_i ns hi
        exact ⟨a, ns, rfl, live_ints S ha hl hi, good_int S P⟩
      · exact P.elim
    · exact P.elim
theorem cs_all (hK : X.K = G.K) : CallS G bAll (rAll X.K) := by
  rw [hK]
  intro W σ rho H M ds vs Q S r P
  match ds, P with
  | [.ref n], P =>
    obtain ⟨v, rfl, rv⟩ := r.one
    obtain ⟨a, rfl, ha⟩ := rep_ref rv
    simp only [bAll] at P
    split at P
    · rename_i es hl
      split at P
      · rename_i ns hi
        obtain ⟨ws, q, rs⟩ := live_rep S hl ha
        rw [blsD_rep hi rs] at q
        exact ⟨a, ns, rfl, q, good_bl S P⟩
      · exact P.elim
    · exact P.elim
theorem cs_any (hK : X.K = G.K) : CallS G bAny (rAny X.K) := by
  rw [hK]
  intro W σ rho H M ds vs Q S r P
  match ds, P with
  | [.ref n], P =>
    obtain ⟨v, rfl, rv⟩ := r.one
    obtain ⟨a, rfl, ha⟩ := rep_ref rv
    simp only [bAny] at P
    split at P
    · rename_i es hl
      split at P
      · rename_i ns hi
        obtain ⟨ws, q, rs⟩ := live_rep S hl ha
        rw [blsD_rep hi rs] at q
        exact ⟨a, ns, rfl, q, good_bl S P⟩
      · exact P.elim
    · exact P.elim
def rTupleV (K : PySem.W.Frag) : List V → Hp → VK → Prop := fun xs H Q => ∃ p ys, xs = [.ref p] ∧ ((SqL K H p ys ∧ ∀ l, H l = none → Q (.ref l) (upd H l (.tup ys))) ∨ (SqT K H p ys ∧ Q (.ref p) H))
theorem cr_tupleV : CallR X (.type "tuple") (rTupleV X.K) := call_tuple_of
theorem cs_tuple (hK : X.K = G.K) : CallS G bTuple (rTupleV X.K) := by
  rw [hK]
  intro W σ rho H M ds vs Q S r P
  match ds, P with
  | [.tup es], P =>
    obtain ⟨v, rfl, rv⟩ := r.one
    have rv' := rv
    obtain ⟨a, ws, rfl, h1, h2⟩ := rep_tup rv
    exact ⟨a, ws, rfl, .inr ⟨SqT.of h1, P.now S _ rv'⟩⟩
  | [.ref n], P =>
    obtain ⟨v, rfl, rv⟩ := r.one
    obtain ⟨a, rfl, ha⟩ := rep_ref rv
    simp only [bTuple] at P
    split at P
    · rename_i es hl
      obtain ⟨ws, q, rs⟩ := live_rep S hl ha
      exact ⟨a, ws, rfl, .inl ⟨q, new_tup S rs P⟩⟩
    · exact P.elim
def rListV (K : PySem.W.Frag) : List V → Hp → VK → Prop := fun xs H Q => ∃ p ys, xs = [.ref p] ∧ (SqL K H p ys ∨ SqT K H p ys) ∧ ∀ l, H l = none → Q (.ref l) (upd H l (.lst ys))
theorem cr_listV : CallR X (.type "list") (rListV X.K) := call_list_of
theorem cs_list (hK : X.K = G.K) : CallS G bList (rListV X.K) := by
  rw [hK]
  intro W σ rho H M ds vs Q S r P
  match ds, P with
  | [.tup es], P =>
    obtain ⟨v, rfl, rv⟩ := r.one
    obtain ⟨a, ws, rfl, h1, h2⟩ := rep_tup rv
    exact ⟨a, ws, rfl, .inr (SqT.of h1), new_lst S h2 P⟩
  | [.ref n], P =>
    obtain ⟨v, rfl, rv⟩ := r.one
    obtain ⟨a, rfl, ha⟩ := rep_ref rv
    simp only [bList] at P
    split at P
    · rename_i es hl
      obtain ⟨ws, q, rs⟩ := live_rep S hl ha
      exact ⟨a, ws, rfl, .inl q, new_lst S rs P⟩
    · exact P.elim
/-! repr -/
def rRepr (K : PySem.W.Frag) : List V → Hp → VK → Prop := fun xs H Q => ∃ x d, xs = [x] ∧ Dp K H x d ∧ d.showable = true ∧ d.hasDict = false ∧ d.depth ≤ 150 ∧ d.shown.length ≤ sizeLine ∧ Q (.str d.shown) H
theorem cr_repr (hu : X.A.units + 160 < cLine) (hg : X.A.guards = some []) : CallR X (.builtin "repr") (rRepr X.K) := by
  intro pins s σ H xs us Q I r ⟨x, d, ex, hd, h1, h2, h3, h4, q⟩
  subst ex
  obtain ⟨u, rfl, ru⟩ := vals1 r
  cases hd with
  | non => cases ru; exact PySem.P.repr_of_none ⟨.str _, H, I.tok _, ⟨_, rfl⟩, q⟩
  | bl b => cases ru; exact PySem.P.repr_of_bool ⟨.str _, H, I.tok _, ⟨_, rfl⟩, q⟩
  | int i => obtain ⟨t, rfl⟩ := ru; exact PySem.P.repr_of_int (by simpa [PyData.showable] using h1) ⟨.str _, H, I.tok _, ⟨_, rfl⟩, q⟩
  | str z => obtain ⟨t, rfl⟩ := ru; exact PySem.P.repr_of_str ⟨.str _, H, I.tok _, ⟨_, rfl⟩, q⟩ h4
  | lst g1 g2 =>
    obtain ⟨as, rd⟩ := Dp.reads I _ _ _ (Dp.lst g1 g2) ru
    obtain rfl : u = Value.ref _ := ru
    exact repr_of_reads' rd h1 (fun hh => by rw [h2] at hh; cases hh) hg (by omega) (fun b o e => e) (fun h' u tk hk => ⟨.str _, H, I.kept hk, ⟨_, rfl⟩, q⟩) h4
  | tup g1 g2 =>
    obtain ⟨as, rd⟩ := Dp.reads I _ _ _ (Dp.tup g1 g2) ru
    obtain rfl : u = Value.ref _ := ru
    exact repr_of_reads' rd h1 (fun hh => by rw [h2] at hh; cases hh) hg (by omega) (fun b o e => e) (fun h' u tk hk => ⟨.str _, H, I.kept hk, ⟨_, rfl⟩, q⟩) h4
theorem cs_repr (hK : X.K = G.K) : CallS G bRepr (rRepr X.K) := by
  rw [hK]
  intro W σ rho H M ds vs Q S r P
  match ds, P with
  | [d], P =>
    obtain ⟨v, rfl, rv⟩ := r.one
    simp only [bRepr] at P
    split at P
    · rename_i p hp
      split at P
      · rename_i h
        exact ⟨v, p, rfl, toPy_dp S 6 d p v hp rv, h.1, h.2.1, h.2.2.1, by rw [← cap_eq]; exact h.2.2.2, good_str S P⟩
      · exact P.elim
    · exact P.elim
/-! isinstance -/
theorem tyOf_rep {K : PySem.W.Frag} {T : List Addr} (S : StR K T rho H M) {d : D} {v : V} {a : String} (h : tyOf M d = some a) (r : Rep K rho H d v) : TyX K H v (.type a) := by
  cases d <;> simp only [tyOf, Option.some.injEq] at h <;> try cases h
  · cases rep_non r; exact .base .non
  · cases rep_bl r; exact .base (.bl _)
  · cases rep_int r; exact .base (.int _)
  · cases rep_str r; exact .base (.str _)
  · obtain ⟨b, ws, rfl, h1, h2⟩ := rep_tup r; exact .base (.tup h1)
  · obtain ⟨b, rfl, hb⟩ := rep_ref r
    split at h <;> try cases h
    · rename_i es hm; obtain ⟨ws, g1, g2⟩ := S.at_ _ b _ hb hm; exact .base (.lst g1)
    · rename_i es hm; obtain ⟨ws, g1, g2⟩ := S.at_ _ b _ hb hm; exact .base (.dK g1)
    · rename_i es hm; obtain ⟨ws, g1, g2⟩ := S.at_ _ b _ hb hm; exact .base (.dT g1)
theorem csts_rep {K : PySem.W.Frag} : ∀ {ds : List D} {bs : List String} {vs : List V}, csts ds = some bs → Reps K rho H ds vs → Paired ClsV vs (bs.map Value.type)
  | [], bs, vs, h, r => by simp only [csts, Option.some.injEq] at h; simp only [Reps] at r; subst h r; exact .nil
  | d :: ds, bs, vs, h, r => by
    match d, h with
    | .cst (.ty n), h =>
      simp only [csts, Option.map_eq_some_iff] at h
      obtain ⟨ks, h1, h2⟩ := h
      simp only [Reps] at r
      obtain ⟨v, ws, rfl, r1, r2⟩ := r
      rw [rep_cst r1, ← h2]
      exact .cons (.ty n) (csts_rep h1 r2)
theorem kitAll_ok {K : PySem.W.Frag} {a : String} : ∀ {bs : List String} {k : Bool}, kitAll a bs = some k → PySem.W.kitAny K (.type a) (bs.map Value.type) = some k
  | [], k, h => by simp only [kitAll, Option.some.injEq] at h; subst h; exact kitAny_nil
  | b :: bs, k, h => by
    simp only [kitAll] at h
    split at h
    · rename_i e; simp only [Option.some.injEq] at h; subst h
      exact kitAny_cons (kit_ty e) (fun z => by cases z) fun _ => rfl
    · rename_i e
      exact kitAny_cons (kit_ty e) (fun _ => kitAll_ok h) fun z => by cases z
    · cases h
def rIsiV (K : PySem.W.Frag) : List V → Hp → VK → Prop := fun xs H Q => rIsi K xs H Q ∨ rIsiT K xs H Q
theorem cr_isi : CallR X (.builtin "isinstance") (rIsiV X.K) := call_isi.or call_isiT
theorem cs_isi (hK : X.K = G.K) : CallS G bIsi (rIsiV X.K) := by
  rw [hK]
  intro W σ rho H M ds vs Q S r P
  match ds, P with
  | [x, .cst (.ty b)], P =>
    obtain ⟨v, w, rfl, rv, rw'⟩ := r.two
    cases rep_cst rw'
    simp only [bIsi] at P
    split at P
    · rename_i a ha
      split at P
      · rename_i k hk
        exact .inl ⟨v, .ty b, _, _, k, rfl, .ty b, tyOf_rep S ha rv, kit_ty hk, good_bl S P⟩
      · exact P.elim
    · exact P.elim
  | [x, .tup cs], P =>
    obtain ⟨v, w, rfl, rv, rw'⟩ := r.two
    obtain ⟨a, ws, rfl, h1, h2⟩ := rep_tup rw'
    simp only [bIsi] at P
    split at P
    · rename_i a' bs ha hb
      split at P
      · rename_i k hk
        exact .inr ⟨v, a, ws, _, _, k, rfl, h1, csts_rep hb h2, tyOf_rep S ha rv, kitAll_ok hk, good_bl S P⟩
      · exact P.elim
    · exact P.elim
end
end Ev

/-! Ev, part I: methods of built-in types, a tuple times an int, stores to subscripts, dict displays. -/
namespace PySem
open Sem (wp)
theorem ev_ext_tuple (la : Addr) (its : Array Value) (ln : Nat) (tb : Addr) (its2 : Array Value) (tn : Nat) (td : Option Addr) (ts : Array (Option Value)) (g0 : ¬(!its.isEmpty && Builtin.List.listTooLong (its.size + its2.size)) = true) (g1 : its.size ≤ sizeLine) (g2 : its.size + its2.size ≤ sizeLine + 1) :
    Meets (Builtin.«list.extend» ⟨[.ref la, .ref tb], []⟩) (fun _ R st => st.heap.get? la = some { cls := .type "list", dict := none, data := .seq its ln, slots := #[] } ∧ st.heap.get? tb = some { cls := .type "tuple", dict := td, data := .seq its2 tn, slots := ts } ∧
      R (.ok (.ret Value.none)) { st with heap := st.heap.update la (Obj.mapSeq fun x => x ++ its2), toks := st.toks }) :=
  .of_wp fun pr wd A R st hh => by
    obtain ⟨h0, g, d, tk, os⟩ := st
    obtain ⟨hl, hb, k⟩ := hh
    have f1 := AutoSeq1.idx_int
    have f2 := AutoSeq1.sub_tuple_tuple
    have f3 := AutoSeq1.sub_list_list
    have f4 := AutoSeq1.sub_tuple_list
    have f5 := AutoSeq1.sub_list_tuple
    have hz : (its ++ its2).size ≤ sizeLine + 1 := by rw [Array.size_append]; exact g2
    wp_walk using (wpAny_updateSeq hl rfl (hz := g1) (_hz' := hz)), AutoSeq1.wpAny_loadPart' hl, AutoSeq1.wpAny_loadPart' hb
    exact ⟨_, rfl, k⟩
theorem ev_tmul_one (la : Addr) (its : Array Value) (ln : Nat) (td : Option Addr) (ts : Array (Option Value)) (u : Tok) :
    Meets (Builtin.«tuple.__mul__» ⟨[.ref la, .int 1 u], []⟩) (fun _ R st => st.heap.get? la = some { cls := .type "tuple", dict := td, data := .seq its ln, slots := ts } ∧ R (.ok (.ret (.ref la))) st) :=
  .of_wp fun pr wd A R st hh => by
    obtain ⟨h0, g, d, tk, os⟩ := st
    obtain ⟨hl, k⟩ := hh
    have f1 := AutoSeq1.idx_int
    have c0 : (decide ((1 : Int) < -(2 ^ 63)) || decide ((1 : Int) ≥ 2 ^ 63)) = false := by decide
    have c1 : (its.isEmpty || (1 : Int) == 1) = true := by simp
    wp_walk using AutoSeq1.wpAny_loadPart' hl
    repeat (first
      | (refine wpAny_ite_false (decide_eq_false (by rw [c0]; exact Bool.false_ne_true)) ?_; wp_walk using AutoSeq1.wpAny_loadPart' hl)
      | (refine wpAny_ite_true (decide_eq_true c1) ?_; wp_walk using AutoSeq1.wpAny_loadPart' hl))
    exact ⟨_, rfl, k⟩
theorem ev_tmul_none (la : Addr) (its : Array Value) (ln : Nat) (td : Option Addr) (ts : Array (Option Value)) (n : Int) (u : Tok) (c0 : (decide (n < -(2 ^ 63)) || decide (n ≥ 2 ^ 63)) = false) (c1 : (its.isEmpty || n == 1) = false) (c2 : (decide (n ≤ 0) || its.isEmpty) = true) :
    Meets (Builtin.«tuple.__mul__» ⟨[.ref la, .int n u], []⟩) (fun _ R st => st.heap.get? la = some { cls := .type "tuple", dict := td, data := .seq its ln, slots := ts } ∧
      R (.ok (.ret (.ref st.heap.objs.size))) { st with heap := st.heap.push { cls := .type "tuple", data := .seq #[] }, toks := st.toks }) :=
  .of_wp fun pr wd A R st hh => by
    obtain ⟨h0, g, d, tk, os⟩ := st
    obtain ⟨hl, k⟩ := hh
    have f1 := AutoSeq1.idx_int
    wp_walk using AutoSeq1.wpAny_loadPart' hl
    repeat (first
      | (refine wpAny_ite_false (decide_eq_false (by rw [c0]; exact Bool.false_ne_true)) ?_; wp_walk using AutoSeq1.wpAny_loadPart' hl)
      | (refine wpAny_ite_false (decide_eq_false (by rw [c1]; exact Bool.false_ne_true)) ?_; wp_walk using AutoSeq1.wpAny_loadPart' hl)
      | (refine wpAny_ite_true (decide_eq_true c2) ?_; wp_walk using AutoSeq1.wpAny_loadPart' hl))
    exact ⟨_, rfl, k⟩
end PySem
namespace Ev
open PySem PySem.Spec PyProof.Rows L2
section
variable {X : Cx}
/-- a tuple, not empty, once or not at all -/
def rRepT1 (K : PySem.W.Frag) : R2 := fun x y H Q => ∃ l k xs, x = .ref l ∧ y = .int k ∧ SqT K H l xs ∧ xs ≠ [] ∧ -(2 ^ 63) ≤ k ∧ k ≤ 1 ∧ (k = 1 → Q (.ref l) H) ∧ (k ≤ 0 → ∀ p, H p = none → Q (.ref p) (upd H p (.tup [])))
theorem op_repT1 : OpR X (binaryOp .Mult) (rRepT1 X.K) := by
  intro pins s σ H x y v u Q I rx ry h
  obtain ⟨l, k, xs, rfl, rfl, hT, hne, h1, h2, q1, q0⟩ := h
  obtain rfl : v = Value.ref l := rx
  obtain ⟨t, rfl⟩ := ry
  obtain ⟨its, r, ⟨⟨cls, dd, data, sl⟩, ho, hc, n, hd⟩, hs⟩ := I.tuple hT
  simp only at hc hd
  subst hc hd
  have hi : its.toArray.isEmpty = false := by
    cases its with
    | nil => cases r; exact absurd rfl hne
    | cons a b => rfl
  by_cases hk : k = 1
  · subst hk
    refine wpAny_binaryOp_repeat_ref (T := "tuple") (U := "int") (by decide) ⟨_, ho, rfl⟩ (fun s' => typeIs_int s' 1 t) noFill_tuple_mul F.fills_int_mul F.slot_int_rmul repeat_tuple F.slot_int_index.lookup
      (call_meets F.slot_int_rmul (typeIs_int s 1 t) F.entry_int_rmul (F.args_int_rmul_2 _ _) (int_rmul_tuple 1 t l its.toArray n dd sl)
        ⟨ho, rfl, ⟨_, ho, rfl⟩, call_meets F.slot_tuple_mul ⟨_, ho, rfl⟩ F.entry_tuple_mul (F.args_tuple_mul_2 _ _) (ev_tmul_one l its.toArray n dd sl t) ⟨ho, ?_⟩⟩)
    exact ⟨.ref l, H, I, rfl, q1 rfl⟩
  · have k0 : k ≤ 0 := by omega
    have c0 : (decide (k < -(2 ^ 63)) || decide (k ≥ 2 ^ 63)) = false := by
      rw [decide_eq_false (by omega), decide_eq_false (by omega)] <;> rfl
    have c1 : (its.toArray.isEmpty || k == 1) = false := by
      rw [hi, Bool.false_or]
      exact beq_eq_false_iff_ne.mpr (by omega)
    have c2 : (decide (k ≤ 0) || its.toArray.isEmpty) = true := by
      rw [decide_eq_true k0]; rfl
    refine wpAny_binaryOp_repeat_ref (T := "tuple") (U := "int") (by decide) ⟨_, ho, rfl⟩ (fun s' => typeIs_int s' k t) noFill_tuple_mul F.fills_int_mul F.slot_int_rmul repeat_tuple F.slot_int_index.lookup
      (call_meets F.slot_int_rmul (typeIs_int s k t) F.entry_int_rmul (F.args_int_rmul_2 _ _) (int_rmul_tuple k t l its.toArray n dd sl)
        ⟨ho, rfl, ⟨_, ho, rfl⟩, call_meets F.slot_tuple_mul ⟨_, ho, rfl⟩ F.entry_tuple_mul (F.args_tuple_mul_2 _ _) (ev_tmul_none l its.toArray n dd sl k t c0 c1 c2) ⟨ho, ?_⟩⟩)
    refine ⟨.ref s.heap.objs.size, _, I.laid (t' := s.toks) (o := .tup []) (fun b ob q => Heap.get?_push_of_some _ q) (Nat.le_refl _) ?_, rfl, q0 k0 _ (I.hok.fresh (Nat.le_refl _))⟩
    exact ⟨Nat.zero_le _, [], Paired.nil, IsTup.new _ _⟩
def rExtT (K : PySem.W.Frag) : V → List V → Hp → VK → Prop := fun x vs H Q => ∃ l b xs zs, x = .ref l ∧ vs = [.ref b] ∧ H l = some (.lst xs) ∧ SqT K H b zs ∧ xs.length + zs.length ≤ sizeLine ∧ Q .non (upd H l (.lst (xs ++ zs)))
theorem mt_extT : MtR X "list.extend" (rExtT X.K) := by
  intro pins s σ H x vs v us Q I rx rv h
  obtain ⟨l, b, xs, zs, rfl, rfl, hH, hB, hz, q⟩ := h
  obtain rfl : v = Value.ref l := rx
  obtain ⟨u, rfl, ru⟩ := rv.one
  obtain rfl : u = Value.ref b := ru
  obtain ⟨z, its, n, r, hl, e⟩ := I.lstM hH
  obtain ⟨its2, r2, ⟨⟨cls, dd, data, sl⟩, ho, hc, n2, hd⟩, hs⟩ := I.tuple hB
  simp only at hc hd
  subst hc hd
  have hl2 := r2.length
  have hsz : its.toArray.size + its2.toArray.size ≤ sizeLine := by rw [List.size_toArray, List.size_toArray]; omega
  have hlong : ¬ (!its.toArray.isEmpty && Builtin.List.listTooLong (its.toArray.size + its2.toArray.size)) = true := by
    rw [notLongL hsz, Bool.and_false]
    exact Bool.false_ne_true
  refine call_meets F.slot_list_extend ⟨_, e, rfl⟩ F.entry_list_extend (F.args_list_extend_2 _ _) (ev_ext_tuple l its.toArray n b its2.toArray n2 dd sl hlong (by omega) (by omega)) ⟨e, ho, ?_⟩
  exact ⟨.non, _, I.lset (its' := its ++ its2) hH e (by simp) (r.append r2) (by rw [List.length_append]; omega), rfl, q⟩
end
end Ev

/-! Ev, part J: * in full, methods of lists and dicts, stores to subscripts, dict displays. -/
namespace Ev
open PySem L2
section
variable {G : Gd} {X : Cx} {W : WX}
/-! ### * in full -/
def dMulA (x y : D) (M : Store) : Out D := match x, y with
  | .tup as, .int k => if as ≠ [] ∧ -(2 ^ 63) ≤ k ∧ k ≤ 1000 ∧ as.length ≤ 1000 then .ok (.tup (List.replicate k.toNat as).flatten) M else .bad
  | x, y => dMul x y M
def rMulA (K : PySem.W.Frag) : R2 := fun x y H Q => rMulV K x y H Q ∨ rRepT1 K x y H Q
theorem op_mulA : OpR X (binaryOp .Mult) (rMulA X.K) := op_mulV.or op_repT1
theorem ds_mulA (hK : X.K = G.K) : OpS G dMulA (rMulA X.K) := by
  intro W σ rho H M x y v w Q S rx ry P
  by_cases hx : ∃ as k, x = .tup as ∧ y = .int k
  · obtain ⟨as, k, rfl, rfl⟩ := hx
    rw [hK]
    simp only [dMulA] at P
    split at P
    · rename_i h
      cases rep_int ry
      obtain ⟨a, vs, rfl, h1, h2⟩ := rep_tup rx
      have ne : vs ≠ [] := fun e => h.1 (by
        subst e
        have := h2.length; simp at this
        exact List.eq_nil_of_length_eq_zero this.symm)
      by_cases hk : 2 ≤ k
      · exact .inl (.inr (.inr ⟨a, _, vs, rfl, rfl, SqT.of h1, ne, hk, h.2.2.1, by rw [h2.length]; exact h.2.2.2, new_tup S (h2.rep _) P⟩))
      · refine .inr ⟨a, k, vs, rfl, rfl, SqT.of h1, ne, h.2.1, by omega, fun e => ?_, fun e => ?_⟩
        · subst e
          refine P.now S _ ?_
          simp only [Int.toNat_one, List.replicate_one, List.flatten_cons, List.flatten_nil, List.append_nil]
          exact rx
        · have e0 : k.toNat = 0 := by omega
          rw [e0] at P
          exact new_tup S (ds := []) (vs := []) Reps.nil P
    · exact P.elim
  · have e : dMulA x y M = dMul x y M := by
      unfold dMulA
      split
      · rename_i as k; exact absurd ⟨as, k, rfl, rfl⟩ hx
      · rfl
    rw [e] at P
    exact .inl (ds_mul hK W σ rho H M x y v w Q S rx ry P)

/-! ### methods -/
def MethS (G : Gd) (f : D → List D → Store → Out D) (r : V → List V → Hp → VK → Prop) : Prop :=
  ∀ (W : WX) (σ : St) (rho : List Addr) (H : Hp) (M : Store) (x : D) (ds : List D) (v : V) (vs : List V) (Q : VK), StR G.K G.T rho H M → Rep G.K rho H x v → Reps G.K rho H ds vs → Post G W σ rho H (GoodD G.K Q) (f x ds M) → r v vs H Q
def isLst (x : D) (M : Store) : Bool := match x with
  | .ref n => (match M[n]? with
    | some (.lst _) => true
    | _ => false)
  | _ => false
/-- xs.m(..), xs a list -/
def eMl (f : D → List D → Store → Out D) (o : EvE) (g : EvL) : EvE := fun eta M => (o eta M).bind fun x M1 => if isLst x M1 = true then (g eta M1).bind fun ds M2 => f x ds M2 else .bad
theorem isLst_rep {K : PySem.W.Frag} {T rho : List Addr} {H : Hp} {M : Store} {x : D} {v : V} (S : StR K T rho H M) (h : isLst x M = true) (r : Rep K rho H x v) : tyV K "list" v H := by
  unfold isLst at h
  split at h
  · obtain ⟨a, rfl, ha⟩ := rep_ref r
    split at h
    · rename_i ds hm
      obtain ⟨ws, g1, g2⟩ := S.at_ _ a _ ha hm
      exact .inl ⟨rfl, ws, SqL.of g1⟩
    · cases h
  · cases h
theorem ev_ml {f : D → List D → Store → Out D} {r : V → List V → Hp → VK → Prop} {fo : EvE} {g : EvL} {o e : Expr} {es : List Expr} {name : Str} {id : String} {apos cpos : Pos} (hK : X.K = G.K) (slot : Slot "list" name id) (hty : typeOf (.builtin id) = pure (.type "method_descriptor")) (hm : MtR X id r) (hs : MethS G f r)
    (ho : PEv G X W fo o) (ha : PLv G X W g (e :: es)) (hbase : attributeBase o name X.env (eval o X.env) = eval o X.env := by rfl)
    (hfew : ((backTo cpos (starEach (e :: es) X.env)).all (fun x => !x.1) && (backToKw cpos (keywordEach [] X.env)).all (fun x => x.1.isSome) && decide ((e :: es).length + ([] : List Keyword).length + (if ([] : List Keyword).isEmpty then 0 else 1) < 30)) = true := by rfl)
    (hline : (apos.endLine == cpos.line) = true := by rfl) (hst : starEach (e :: es) X.env = (false, eval e X.env) :: starEach es X.env := by rfl) (hplain : (backTo cpos (starEach es X.env)).any (·.1) = false := by rfl) :
    PEv G X W (eMl f fo g) (.Call (.Attribute o name apos) (e :: es) [] cpos) :=
  PE.weak (pe_bm PySem.F.plainAttrs_list slot hty hm ho ha hbase hfew hline hst hplain) fun σ H Q ⟨eta, M, rho, V, S, P⟩ => ⟨eta, M, rho, V, S, P.bind.imp fun r1 H1 x M1 e1 S1 P1 v rv => by
    split at P1
    · rename_i hl
      refine ⟨by rw [hK]; exact isLst_rep S1 hl rv, eta, M1, r1, V.mono e1, S1, P1.bind.imp fun r2 H2 ds M2 e2 S2 P2 vs rvs => hs W σ r2 H2 M2 x ds v vs Q S2 (Rep.mono e2 _ _ rv) rvs P2⟩
    · exact P1.elim⟩
def eMl0 (f : D → List D → Store → Out D) (o : EvE) : EvE := fun eta M => (o eta M).bind fun x M1 => if isLst x M1 = true then f x [] M1 else .bad
theorem ev_ml0 {f : D → List D → Store → Out D} {r : V → List V → Hp → VK → Prop} {fo : EvE} {o : Expr} {name : Str} {id : String} {apos cpos : Pos} (hK : X.K = G.K) (slot : Slot "list" name id) (hty : typeOf (.builtin id) = pure (.type "method_descriptor")) (hm : MtR X id r) (hs : MethS G f r)
    (ho : PEv G X W fo o) (hbase : attributeBase o name X.env (eval o X.env) = eval o X.env := by rfl) (hline : (apos.endLine == cpos.line) = true := by rfl) : PEv G X W (eMl0 f fo) (.Call (.Attribute o name apos) [] [] cpos) :=
  PE.weak (pe_bm0 PySem.F.plainAttrs_list slot hty hm ho hbase hline) fun σ H Q ⟨eta, M, rho, V, S, P⟩ => ⟨eta, M, rho, V, S, P.bind.imp fun r1 H1 x M1 e1 S1 P1 v rv => by
    split at P1
    · rename_i hl
      exact ⟨by rw [hK]; exact isLst_rep S1 hl rv, hs W σ r1 H1 M1 x [] v [] Q S1 rv Reps.nil P1⟩
    · exact P1.elim⟩
/-- behind a list's change -/
theorem set_lst {σ : St} {rho : List Addr} {H : Hp} {M : Store} {n : Nat} {a : Addr} {ds ds' : List D} {vs' : List V} {d : D} {v : V} {Q : VK} (S : StR G.K G.T rho H M) (ha : rho[n]? = some a) (hm : M[n]? = some (.lst ds)) (r : Reps G.K rho H ds' vs') (rv : Rep G.K rho H d v)
    (P : Post G W σ rho H (GoodD G.K Q) (.ok d (M.set n (.lst ds')))) : Q v (upd H a (.lst vs')) := by
  obtain ⟨ws, g1, g2⟩ := S.at_ _ a _ ha hm
  have E : Ext rho H rho (upd H a (.lst vs')) := Ext.write (by rw [g1]; trivial)
  exact P rho _ E (S.write ha hm rfl rfl ⟨_, upd_same, Reps.mono E _ _ r⟩) v (Rep.mono E _ _ rv)
def mAppend (x : D) (ds : List D) (M : Store) : Out D := match x, ds with
  | .ref n, [d] => (match M[n]? with
    | some (.lst es) => if es.length < cap then .ok .non (M.set n (.lst (es ++ [d]))) else .bad
    | _ => .bad)
  | _, _ => .bad
theorem ms_append : MethS G mAppend rAppend := by
  intro W σ rho H M x ds v vs Q S rx r P
  match x, ds, P with
  | .ref n, [d], P =>
    obtain ⟨a, rfl, ha⟩ := rep_ref rx
    obtain ⟨u, rfl, ru⟩ := r.one
    simp only [mAppend] at P
    split at P
    · rename_i es hm
      split at P
      · rename_i hl
        obtain ⟨ws, g1, g2⟩ := S.at_ _ a _ ha hm
        exact ⟨a, ws, u, rfl, rfl, g1, by rw [g2.length, ← cap_eq]; exact hl, set_lst S ha hm (g2.append (Reps.cons ru Reps.nil)) (by simp [Rep]) P⟩
      · exact P.elim
    · exact P.elim
def mExtend (x : D) (ds : List D) (M : Store) : Out D := match x, ds with
  | .ref n, [.tup ts] => (match M[n]? with
    | some (.lst es) => if es.length + ts.length ≤ cap then .ok .non (M.set n (.lst (es ++ ts))) else .bad
    | _ => .bad)
  | .ref n, [.ref m] => (match M[n]?, M[m]? with
    | some (.lst es), some (.lst ts) => if es.length + ts.length ≤ cap then .ok .non (M.set n (.lst (es ++ ts))) else .bad
    | _, _ => .bad)
  | _, _ => .bad
def rExtA (K : PySem.W.Frag) : V → List V → Hp → VK → Prop := fun x vs H Q => rExtend x vs H Q ∨ rExtT K x vs H Q
theorem mt_extA : MtR X "list.extend" (rExtA X.K) := MtR.or (r := rExtend) mt_extend mt_extT
theorem ms_extend (hK : X.K = G.K) : MethS G mExtend (rExtA X.K) := by
  rw [hK]
  intro W σ rho H M x ds v vs Q S rx r P
  match x, ds, P with
  | .ref n, [.tup ts], P =>
    obtain ⟨a, rfl, ha⟩ := rep_ref rx
    obtain ⟨u, rfl, ru⟩ := r.one
    obtain ⟨b, us, rfl, h1, h2⟩ := rep_tup ru
    simp only [mExtend] at P
    split at P
    · rename_i es hm
      split at P
      · rename_i hl
        obtain ⟨ws, g1, g2⟩ := S.at_ _ a _ ha hm
        exact .inr ⟨a, b, ws, us, rfl, rfl, g1, SqT.of h1, by rw [g2.length, h2.length, ← cap_eq]; exact hl, set_lst S ha hm (g2.append h2) (by simp [Rep]) P⟩
      · exact P.elim
    · exact P.elim
  | .ref n, [.ref m], P =>
    obtain ⟨a, rfl, ha⟩ := rep_ref rx
    obtain ⟨u, rfl, ru⟩ := r.one
    obtain ⟨b, rfl, hb⟩ := rep_ref ru
    simp only [mExtend] at P
    split at P
    · rename_i es ts hm hm2
      split at P
      · rename_i hl
        obtain ⟨ws, g1, g2⟩ := S.at_ _ a _ ha hm
        obtain ⟨us, g3, g4⟩ := S.at_ _ b _ hb hm2
        exact .inl ⟨a, b, ws, us, rfl, rfl, g1, g3, by rw [g2.length, g4.length, ← cap_eq]; exact hl, set_lst S ha hm (g2.append g4) (by simp [Rep]) P⟩
      · exact P.elim
    · exact P.elim
def mPop (x : D) (ds : List D) (M : Store) : Out D := match x, ds with
  | .ref n, [] => (match M[n]? with
    | some (.lst es) => (match es[es.length - 1]? with
      | some d => .ok d (M.set n (.lst es.dropLast))
      | none => .bad)
    | _ => .bad)
  | .ref n, [.int i] => (match M[n]? with
    | some (.lst es) => (match seqIndex? i es.length with
      | some k => (match es[k]? with
        | some d => if -(2 ^ 63) ≤ i ∧ i < 2 ^ 63 then .ok d (M.set n (.lst (es.eraseIdx k))) else .bad
        | none => .bad)
      | none => .bad)
    | _ => .bad)
  | _, _ => .bad
def rPopA : V → List V → Hp → VK → Prop := fun x vs H Q => rPop x vs H Q ∨ rPopAt x vs H Q
theorem mt_popA : MtR X "list.pop" rPopA := MtR.or (r := rPop) (r' := rPopAt) mt_pop mt_popAt
theorem ms_pop : MethS G mPop rPopA := by
  intro W σ rho H M x ds v vs Q S rx r P
  match x, ds, P with
  | .ref n, [], P =>
    obtain ⟨a, rfl, ha⟩ := rep_ref rx
    simp only [Reps] at r; subst r
    simp only [mPop] at P
    split at P
    · rename_i es hm
      split at P
      · rename_i d hd
        obtain ⟨ws, g1, g2⟩ := S.at_ _ a _ ha hm
        obtain ⟨u, hu, ru⟩ := g2.get hd
        exact .inl ⟨a, ws, u, rfl, rfl, g1, by rw [g2.length]; exact hu, set_lst S ha hm g2.dropLast ru P⟩
      · exact P.elim
    · exact P.elim
  | .ref n, [.int i], P =>
    obtain ⟨a, rfl, ha⟩ := rep_ref rx
    obtain ⟨u, rfl, ru⟩ := r.one
    cases rep_int ru
    simp only [mPop] at P
    split at P
    · rename_i es hm
      split at P
      · rename_i k hk
        split at P
        · rename_i d hd
          split at P
          · rename_i hi
            obtain ⟨ws, g1, g2⟩ := S.at_ _ a _ ha hm
            obtain ⟨u, hu, ru⟩ := g2.get hd
            exact .inr ⟨a, ws, i, k, u, rfl, rfl, g1, hi.1, hi.2, by rw [g2.length]; exact hk, hu, set_lst S ha hm (g2.erase k) ru P⟩
          · exact P.elim
        · exact P.elim
      · exact P.elim
    · exact P.elim
def mInsert (x : D) (ds : List D) (M : Store) : Out D := match x, ds with
  | .ref n, [.int i, d] => (match M[n]? with
    | some (.lst es) => if es.length < cap ∧ 0 ≤ i ∧ i < 2 ^ 63 then .ok .non (M.set n (.lst (es.take i.toNat ++ [d] ++ es.drop i.toNat))) else .bad
    | _ => .bad)
  | _, _ => .bad
def rInsert : V → List V → Hp → VK → Prop := fun x vs H Q => ∃ (l : Addr) (xs : List V) (i : Int) (y : V), x = .ref l ∧ vs = [.int i, y] ∧ H l = some (.lst xs) ∧ xs.length < sizeLine ∧ 0 ≤ i ∧ i < 2 ^ 63 ∧ Q .non (upd H l (.lst (xs.take i.toNat ++ [y] ++ xs.drop i.toNat)))
theorem mt_insertV : MtR X "list.insert" rInsert := mt_insert
theorem ms_insert : MethS G mInsert rInsert := by
  intro W σ rho H M x ds v vs Q S rx r P
  match x, ds, P with
  | .ref n, [.int i, d], P =>
    obtain ⟨a, rfl, ha⟩ := rep_ref rx
    obtain ⟨u, u2, rfl, ru, ru2⟩ := r.two
    cases rep_int ru
    simp only [mInsert] at P
    split at P
    · rename_i es hm
      split at P
      · rename_i hl
        obtain ⟨ws, g1, g2⟩ := S.at_ _ a _ ha hm
        exact ⟨a, ws, i, u2, rfl, rfl, g1, by rw [g2.length, ← cap_eq]; exact hl.1, hl.2.1, hl.2.2, set_lst S ha hm (((g2.take _).append (Reps.cons ru2 Reps.nil)).append (g2.drop _)) (by simp [Rep]) P⟩
      · exact P.elim
    · exact P.elim

/-! ### dicts: get, setdefault -/
def isDic (x : D) (M : Store) : Bool := match x with
  | .ref n => (match M[n]? with
    | some (.dicK _) => true
    | some (.dicT _) => true
    | _ => false)
  | _ => false
theorem isDic_rep {K : PySem.W.Frag} {T rho : List Addr} {H : Hp} {M : Store} {x : D} {v : V} (S : StR K T rho H M) (h : isDic x M = true) (r : Rep K rho H x v) : ∃ a, v = .ref a ∧ IsD H a := by
  unfold isDic at h
  split at h
  · obtain ⟨a, rfl, ha⟩ := rep_ref r
    split at h
    · rename_i ds hm
      obtain ⟨ws, g1, g2⟩ := S.at_ _ a _ ha hm
      exact ⟨a, rfl, .inl ⟨ws, .inl g1⟩⟩
    · rename_i ds hm
      obtain ⟨ws, g1, g2⟩ := S.at_ _ a _ ha hm
      exact ⟨a, rfl, .inr ⟨ws, .inl g1⟩⟩
    · cases h
  · cases h
def mGet (x y z : D) (M : Store) : Out D := match x with
  | .ref n => (match dictAt M n y with
    | some (some d) => .ok d M
    | some none => .ok z M
    | none => .bad)
  | _ => .bad
def eGet1 (o k : EvE) : EvE := fun eta M => (o eta M).bind fun x M1 => if isDic x M1 = true then (k eta M1).bind fun y M2 => mGet x y .non M2 else .bad
def eGet2 (o k z : EvE) : EvE := fun eta M => (o eta M).bind fun x M1 => if isDic x M1 = true then (k eta M1).bind fun y M2 => (z eta M2).bind fun d M3 => mGet x y d M3 else .bad
theorem get_rep {σ : St} {rho : List Addr} {H : Hp} {M : Store} {x y z : D} {a : Addr} {w u : V} {Q : VK} (S : StR G.K G.T rho H M) (rx : Rep G.K rho H x (.ref a)) (ry : Rep G.K rho H y w) (rz : Rep G.K rho H z u) (P : Post G W σ rho H (GoodD G.K Q) (mGet x y z M)) :
    ∃ o, DGet H a w o ∧ Q (o.getD u) H := by
  cases x <;> try exact P.elim
  simp only [mGet] at P
  obtain ⟨a', e, ha⟩ := rep_ref rx
  cases e
  split at P
  · rename_i d hd
    obtain ⟨r, g, hr⟩ := dictAt_rep S hd ha ry
    rcases hr with ⟨h, _⟩ | ⟨d', v, h1, rfl, rv⟩
    · cases h
    · cases h1
      exact ⟨_, g, P.now S v rv⟩
  · rename_i hd
    obtain ⟨r, g, hr⟩ := dictAt_rep S hd ha ry
    rcases hr with ⟨_, rfl⟩ | ⟨d', v, h1, _⟩
    · exact ⟨_, g, P.now S u rz⟩
    · cases h1
  · exact P.elim
theorem ev_get1 {fo fk : EvE} {o e : Expr} {apos cpos : Pos} (hu : X.A.units + 1 < cLine) (ho : PEv G X W fo o) (he : PEv G X W fk e) (m : M1 X o "get" apos e cpos := by exact ⟨rfl, rfl, rfl, rfl⟩) : PEv G X W (eGet1 fo fk) (.Call (.Attribute o "get" apos) [e] [] cpos) :=
  PE.weak (pe_dget1 hu ho he m) fun σ H Q ⟨eta, M, rho, V, S, P⟩ => ⟨eta, M, rho, V, S, P.bind.imp fun r1 H1 x M1 e1 S1 P1 v rv => by
    split at P1
    · rename_i hd
      obtain ⟨a, rfl, da⟩ := isDic_rep S1 hd rv
      exact ⟨a, rfl, da, eta, M1, r1, V.mono e1, S1, P1.bind.imp fun r2 H2 y M2 e2 S2 P2 w rw' => get_rep S2 (Rep.mono e2 _ _ rv) rw' (by simp [Rep]) P2⟩
    · exact P1.elim⟩
theorem ev_get2 {fo fk fz : EvE} {o e f : Expr} {apos cpos : Pos} (hu : X.A.units + 1 < cLine) (ho : PEv G X W fo o) (he : PEv G X W fk e) (hf : PEv G X W fz f) (m : M2 X o "get" apos e f cpos := by exact ⟨rfl, rfl, rfl, rfl⟩) : PEv G X W (eGet2 fo fk fz) (.Call (.Attribute o "get" apos) [e, f] [] cpos) :=
  PE.weak (pe_dget2 hu ho he hf m) fun σ H Q ⟨eta, M, rho, V, S, P⟩ => ⟨eta, M, rho, V, S, P.bind.imp fun r1 H1 x M1 e1 S1 P1 v rv => by
    split at P1
    · rename_i hd
      obtain ⟨a, rfl, da⟩ := isDic_rep S1 hd rv
      exact ⟨a, rfl, da, eta, M1, r1, V.mono e1, S1, P1.bind.imp fun r2 H2 y M2 e2 S2 P2 w rw' => ⟨eta, M2, r2, (V.mono e1).mono e2, S2, P2.bind.imp fun r3 H3 z M3 e3 S3 P3 u ru => get_rep S3 (Rep.mono e3 _ _ (Rep.mono e2 _ _ rv)) (Rep.mono e3 _ _ rw') ru P3⟩⟩
    · exact P1.elim⟩
/-- in its place, or at the end -/
def putD {κ : Type} [DecidableEq κ] (kvs : List (κ × D)) (k : κ) (d : D) : List (κ × D) := if (kvs.any fun p => decide (p.1 = k)) = true then kvs.map (fun p => if p.1 = k then (p.1, d) else p) else kvs ++ [(k, d)]
theorem putD_rep {κ : Type} [DecidableEq κ] {K : PySem.W.Frag} {rho : List Addr} {H : Hp} {kvs : List (κ × D)} {ws : List (κ × V)} {k : κ} {d : D} {v : V} (r : RepKV K rho H kvs ws) (rv : Rep K rho H d v) : RepKV K rho H (putD kvs k d) (putK ws k v) := by
  have ea : (kvs.any fun p => decide (p.1 = k)) = (ws.any fun p => decide (p.1 = k)) := by
    have e1 : (kvs.any fun p => decide (p.1 = k)) = (kvs.map (·.1)).any fun x => decide (x = k) := by rw [List.any_map]; rfl
    have e2 : (ws.any fun p => decide (p.1 = k)) = (ws.map (·.1)).any fun x => decide (x = k) := by rw [List.any_map]; rfl
    rw [e1, e2, r.1]
  unfold putD putK
  rw [ea]
  split
  · clear ea
    have : ∀ (kvs : List (κ × D)) (ws : List (κ × V)), RepKV K rho H kvs ws → RepKV K rho H (kvs.map fun p => if p.1 = k then (p.1, d) else p) (ws.map fun p => if p.1 = k then (p.1, v) else p) := by
      intro kvs
      induction kvs with
      | nil => intro ws r; cases ws with
        | nil => exact ⟨rfl, Reps.nil⟩
        | cons _ _ => have := r.1; simp at this
      | cons p kvs ih =>
        intro ws r
        cases ws with
        | nil => have := r.1; simp at this
        | cons q ws =>
          obtain ⟨h1, h2⟩ := r
          simp only [List.map_cons, List.cons.injEq] at h1
          simp only [List.map_cons, Reps] at h2
          obtain ⟨x, xs, e, r1, r2⟩ := h2
          cases e
          have := ih ws ⟨h1.2, r2⟩
          obtain ⟨p1, p2⟩ := p
          obtain ⟨q1, q2⟩ := q
          simp only at h1 r1
          obtain ⟨h1a, h1b⟩ := h1
          subst h1a
          by_cases hk : p1 = k
          · simp only [List.map_cons, if_pos hk]
            exact ⟨by simp only [List.map_cons]; rw [this.1], by simp only [List.map_cons]; exact Reps.cons rv this.2⟩
          · simp only [List.map_cons, if_neg hk]
            exact ⟨by simp only [List.map_cons]; rw [this.1], by simp only [List.map_cons]; exact Reps.cons r1 this.2⟩
    exact this kvs ws r
  · exact ⟨by rw [List.map_append, List.map_append, r.1]; rfl, by rw [List.map_append, List.map_append]; exact r.2.append (Reps.cons rv Reps.nil)⟩
def eSetd (o k z : EvE) : EvE := fun eta M => (o eta M).bind fun x M1 => if isDic x M1 = true then (k eta M1).bind fun y M2 => (z eta M2).bind fun d M3 => (match x with
  | .ref n => (match M3[n]?, keyK y with
    | some (.dicK kvs), some k => if kvs.length < cap then (match findK kvs k with
        | some e => .ok e M3
        | none => .ok d (M3.set n (.dicK (putD kvs k d)))) else .bad
    | _, _ => .bad)
  | _ => .bad) else .bad
theorem ev_setd {fo fk fz : EvE} {o e f : Expr} {apos cpos : Pos} (ho : PEv G X W fo o) (he : PEv G X W fk e) (hf : PEv G X W fz f) (m : M2 X o "setdefault" apos e f cpos := by exact ⟨rfl, rfl, rfl, rfl⟩) : PEv G X W (eSetd fo fk fz) (.Call (.Attribute o "setdefault" apos) [e, f] [] cpos) :=
  PE.weak (pe_dsetd ho he hf m) fun σ H Q ⟨eta, M, rho, V, S, P⟩ => ⟨eta, M, rho, V, S, P.bind.imp fun r1 H1 x M1 e1 S1 P1 v rv => by
    split at P1
    · rename_i hd
      obtain ⟨a, rfl, da⟩ := isDic_rep S1 hd rv
      refine ⟨a, rfl, da, eta, M1, r1, V.mono e1, S1, P1.bind.imp fun r2 H2 y M2 e2 S2 P2 w rw' => ⟨eta, M2, r2, (V.mono e1).mono e2, S2, P2.bind.imp fun r3 H3 z M3 e3 S3 P3 u ru => ?_⟩⟩
      have rx3 := Rep.mono e3 _ _ (Rep.mono e2 _ _ rv)
      have ry3 := Rep.mono e3 _ _ rw'
      cases x <;> simp only at P3 <;> try exact P3.elim
      obtain ⟨a', e', ha⟩ := rep_ref rx3
      cases e'
      split at P3
      · rename_i kvs k hm hk
        obtain ⟨ws, g1, g2⟩ := S3.at_ _ a _ ha hm
        split at P3
        · rename_i hl
          have el := g2.2.length
          simp only [List.length_map] at el
          refine ⟨ws, k, g1, keyK_rep hk ry3, by rw [el, ← cap_eq]; exact hl, fun v' hv' => ?_, fun hn => ?_⟩
          · rcases findK_val g2 k with ⟨a1, a2⟩ | ⟨d', v2, a1, a2, a3⟩
            · rw [a2] at hv'; cases hv'
            · rw [a2] at hv'; cases hv'
              rw [a1] at P3
              exact P3.now S3 _ a3
          · rcases findK_val g2 k with ⟨a1, a2⟩ | ⟨d', v2, a1, a2, a3⟩
            · rw [a1] at P3
              have E : Ext r3 H3 r3 (upd H3 a (.dK (putK ws k u))) := Ext.write (by rw [g1]; trivial)
              exact P3 r3 _ E (S3.write ha hm rfl rfl ⟨_, upd_same, (putD_rep g2 ru).mono E⟩) _ (Rep.mono E _ _ ru)
            · rw [a2] at hn; cases hn
        · exact P3.elim
      · exact P3.elim
    · exact P1.elim⟩

/-! ### stores to subscripts -/
def setD (x y v : D) (M : Store) : Out Unit := match x with
  | .ref n => (match M[n]? with
    | some (.lst ds) => (match y with
      | .int i => (match ixN ds.length i with
        | some j => .ok () (M.set n (.lst (ds.set j v)))
        | none => .bad)
      | _ => .bad)
    | some (.dicK kvs) => (match keyK y with
      | some k => if kvs.length < cap then .ok () (M.set n (.dicK (putD kvs k v))) else .bad
      | none => .bad)
    | some (.dicT kvs) => (match keyT y with
      | some k => if kvs.length < cap then .ok () (M.set n (.dicT (putD kvs k v))) else .bad
      | none => .bad)
    | _ => .bad)
  | _ => .bad
def rSetA : V → V → V → Hp → (Hp → Prop) → Prop := fun o i v H Q => rSetL o i v H Q ∨ ∃ a H', o = .ref a ∧ DPut H a i v H' ∧ Q H'
theorem set_all (hu : X.A.units + 1 < cLine) : PSet X rSetA := by
  intro pins s σ H o i v ov iv u Q I ro ri rv h
  rcases h with h | ⟨a, H', ea, g, q⟩
  · exact set_list pins s σ H o i v ov iv u Q I ro ri rv h
  · subst ea
    obtain rfl : ov = Value.ref a := ro
    exact d_setItem hu I g ri rv fun s' I' => ⟨H', I', q⟩
def sSet (o i f : EvE) : EvS := fun eta M => OutS.bindE ((f eta M).bind fun v M1 => (o eta M1).bind fun x M2 => (i eta M2).bind fun y M3 => setD x y v M3) eta fun _ M4 => .nx eta M4
theorem sv_setIx {fo fi f : EvE} {o i e : Expr} {p pos : Pos} (hu : X.A.units + 1 < cLine) (he : PEv G X W f e) (ho : PEv G X W fo o) (hi : PEv G X W fi i)
    (hs : swapsWithSole [.Subscript o i p] e pos.line X.env = pure false := by rfl) (hw : swappedStores [.Subscript o i p] e X.env = pure none := by rfl) (h1 : (assignEach [.Subscript o i p] X.env).map (·.2) = [assign (.Subscript o i p) X.env] := by rfl)
    (ha : ∀ v, assign (.Subscript o i p) X.env v = (do
      let ov ← holding [v] (eval o X.env)
      let iv ← holding [v, ov] (eval i X.env)
      standAt p
      holding [v, ov, iv] (setItem ov iv v)
      release [v, ov, iv] []) := by intro _; rfl) : PSv G X W (sSet fo fi f) (.Assign [.Subscript o i p] e pos) :=
  PS.weak (ps_asg he (pg_sub ho hi (set_all hu) ha) hs hw h1) fun E σ H ⟨eta, M, rho, V, S, P⟩ => by
    refine ⟨eta, M, rho, V, S, (P.bindE V).bind.imp fun r1 H1 d M1 e1 S1 P1 v rv => ⟨eta, M1, r1, V.mono e1, S1, P1.bind.imp fun r2 H2 x M2 e2 S2 P2 ov ro => ⟨eta, M2, r2, (V.mono e1).mono e2, S2, P2.bind.imp fun r3 H3 y M3 e3 S3 P3 iv ri => ?_⟩⟩⟩
    have V3 := ((V.mono e1).mono e2).mono e3
    have rv3 := Rep.mono e3 _ _ (Rep.mono e2 _ _ rv)
    have ro3 := Rep.mono e3 _ _ ro
    cases x <;> simp only [setD] at P3 <;> try exact P3.elim
    obtain ⟨a, rfl, ha⟩ := rep_ref ro3
    split at P3
    · rename_i ds hm
      obtain ⟨ws, g1, g2⟩ := S3.at_ _ a _ ha hm
      split at P3
      · rename_i k
        split at P3
        · rename_i j hj
          cases rep_int ri
          have E0 : Ext r3 H3 r3 (upd H3 a (.lst (ws.set j v))) := Ext.write (by rw [g1]; trivial)
          exact .inl ⟨a, ws, k, j, rfl, rfl, g1, by rw [g2.length]; exact hj, P3 r3 _ E0 (S3.write ha hm rfl rfl ⟨_, upd_same, Reps.mono E0 _ _ (g2.set j rv3)⟩) r3 _ σ (Ext.refl _ _) (S3.write ha hm rfl rfl ⟨_, upd_same, Reps.mono E0 _ _ (g2.set j rv3)⟩) (V3.mono E0)⟩
        · exact P3.elim
      · exact P3.elim
    · rename_i kvs hm
      obtain ⟨ws, g1, g2⟩ := S3.at_ _ a _ ha hm
      split at P3
      · rename_i k hk
        split at P3
        · rename_i hl
          have el := g2.2.length
          simp only [List.length_map] at el
          have hw := keyK_rep hk ri
          subst hw
          have E0 : Ext r3 H3 r3 (upd H3 a (.dK (putK ws k v))) := Ext.write (by rw [g1]; trivial)
          have S4 := S3.write ha hm (m' := .dicK (putD kvs k d)) rfl rfl ⟨_, upd_same, (putD_rep g2 rv3).mono E0⟩
          exact .inr ⟨a, _, rfl, DPut.k g1 (by rw [el, ← cap_eq]; exact hl), P3 r3 _ E0 S4 r3 _ σ (Ext.refl _ _) S4 (V3.mono E0)⟩
        · exact P3.elim
      · exact P3.elim
    · rename_i kvs hm
      obtain ⟨ws, g1, g2⟩ := S3.at_ _ a _ ha hm
      split at P3
      · rename_i k hk
        split at P3
        · rename_i hl
          have el := g2.2.length
          simp only [List.length_map] at el
          obtain ⟨b, rfl, hb⟩ := keyT_rep hk ri
          have E0 : Ext r3 H3 r3 (upd H3 a (.dT (putK ws k v))) := Ext.write (by rw [g1]; trivial)
          have S4 := S3.write ha hm (m' := .dicT (putD kvs k d)) rfl rfl ⟨_, upd_same, (putD_rep g2 rv3).mono E0⟩
          exact .inr ⟨a, _, rfl, DPut.t g1 hb (by rw [el, ← cap_eq]; exact hl), P3 r3 _ E0 S4 r3 _ σ (Ext.refl _ _) S4 (V3.mono E0)⟩
        · exact P3.elim
      · exact P3.elim
    · exact P3.elim

/-! ### dict displays -/
def eDicK : EvE := fun _ M => .ok (.ref M.length) (M ++ [.dicK []])
def eDicT : EvE := fun _ M => .ok (.ref M.length) (M ++ [.dicT []])
theorem new_obj {σ : St} {rho : List Addr} {H : Hp} {M : Store} {Q : VK} {m : MO} {u : HO} {p : Addr} (S : StR G.K G.T rho H M) (hp : H p = none) (hm : ∀ r' H', Ext rho H r' H' → H' p = some u → RepO G.K G.T r' H' p m)
    (P : Post G W σ rho H (GoodD G.K Q) (.ok (.ref M.length) (M ++ [m]))) : Q (.ref p) (upd H p u) := by
  have E : Ext rho H (rho ++ [p]) (upd H p u) := (Ext.laid hp).trans Ext.grow
  refine P (rho ++ [p]) _ E (S.alloc hp (hm _ _ E upd_same)) (.ref p) ?_
  simp only [Rep]
  exact ⟨p, rfl, by rw [← S.len, List.getElem?_append_right (Nat.le_refl _)]; simp⟩
theorem ev_dicK {pos : Pos} : PEv G X W eDicK (.Dict [] [] pos) :=
  PE.weak pe_dnewK fun σ H Q ⟨eta, M, rho, V, S, P⟩ p hp => new_obj (m := .dicK []) S hp (fun _ _ _ h => ⟨[], h, rfl, Reps.nil⟩) P
theorem ev_dicT {pos : Pos} : PEv G X W eDicT (.Dict [] [] pos) :=
  PE.weak pe_dnewT fun σ H Q ⟨eta, M, rho, V, S, P⟩ p hp => new_obj (m := .dicT []) S hp (fun _ _ _ h => ⟨[], h, rfl, Reps.nil⟩) P
abbrev EvP := Env → Store → Out (List (D × D))
def pNil : EvP := fun _ M => .ok [] M
def pCons (k v : EvE) (r : EvP) : EvP := fun eta M => (k eta M).bind fun x M1 => (v eta M1).bind fun y M2 => (r eta M2).bind fun ps M3 => .ok ((x, y) :: ps) M3
def keysOf : List (D × D) → Option (List (Key × D))
  | [] => some []
  | (x, y) :: r => match keyK x, keysOf r with
    | some k, some ks => some ((k, y) :: ks)
    | _, _ => none
def mergeD (kvs more : List (Key × D)) : List (Key × D) := more.foldl (fun acc kv => putD acc kv.1 kv.2) kvs
def eDict (r : EvP) : EvE := fun eta M => (r eta (M ++ [.dicK []])).bind fun ps M2 => match M2[M.length]?, keysOf ps with
  | some (.dicK []), some kvs => if kvs.length ≤ 15 then .ok (.ref M.length) (M2.set M.length (.dicK (mergeD [] kvs))) else .bad
  | _, _ => .bad
/-- keys and values as the display has them -/
structure PPv (G : Gd) (X : Cx) (W : WX) (f : EvP) (pos : Pos) (ks : List (Option Expr)) (vs : List Expr) (trs : List (TE × TE)) : Prop where
  pp : PPs X pos ks vs trs
  so : ∀ (σ : St) (rho : List Addr) (H : Hp) (eta : Env) (M : Store) (Q : List (V × V) → Hp → Prop), EnvR G.K rho H eta σ → StR G.K G.T rho H M →
    Post G W σ rho H (fun r' H' ps _ => ∀ xs : List (V × V), (xs.length = ps.length ∧ ∀ (i : Nat) (x y : D), ps[i]? = some (x, y) → ∃ v w, xs[i]? = some (v, w) ∧ Rep G.K r' H' x v ∧ Rep G.K r' H' y w) → Q xs H') (f eta M) → tPairs trs σ H Q
theorem pv_nil {pos : Pos} : PPv G X W pNil pos [] [] [] := ⟨pps_nil, fun σ rho H eta M Q V S P => P.now S [] ⟨rfl, fun i x y h => by simp at h⟩⟩
theorem pv_cons {pos : Pos} {k v : Expr} {ks : List (Option Expr)} {vs : List Expr} {trs : List (TE × TE)} {fk fv : EvE} {r : EvP} (hk : PEv G X W fk k) (hv : PEv G X W fv v) (hr : PPv G X W r pos ks vs trs) :
    PPv G X W (pCons fk fv r) pos (some k :: ks) (v :: vs) ((tE G W fk, tE G W fv) :: trs) :=
  ⟨pps_cons hk hv hr.pp, fun σ rho H eta M Q V S P => ⟨eta, M, rho, V, S, P.bind.imp fun r1 H1 x M1 e1 S1 P1 vx rx => ⟨eta, M1, r1, V.mono e1, S1, P1.bind.imp fun r2 H2 y M2 e2 S2 P2 vy ry =>
    hr.so σ r2 H2 eta M2 _ ((V.mono e1).mono e2) S2 (P2.bind.imp fun r3 H3 ps M3 e3 S3 P3 xs hx => P3.now S3 _ ⟨by simp [hx.1], fun i a b h => by
      cases i with
      | zero =>
        simp only [List.getElem?_cons_zero, Option.some.injEq, Prod.mk.injEq] at h
        obtain ⟨rfl, rfl⟩ := h
        exact ⟨vx, vy, rfl, Rep.mono e3 _ _ (Rep.mono e2 _ _ rx), Rep.mono e3 _ _ ry⟩
      | succ i =>
        obtain ⟨a', b', h1, h2, h3⟩ := hx.2 i a b (by simpa using h)
        exact ⟨a', b', by simpa using h1, h2, h3⟩⟩)⟩⟩⟩
theorem keysOf_rep {K : PySem.W.Frag} {rho : List Addr} {H : Hp} : ∀ {ps : List (D × D)} {kvs : List (Key × D)} {xs : List (V × V)}, keysOf ps = some kvs → (xs.length = ps.length ∧ ∀ (i : Nat) (x y : D), ps[i]? = some (x, y) → ∃ v w, xs[i]? = some (v, w) ∧ Rep K rho H x v ∧ Rep K rho H y w) →
    ∃ ws : List (Key × V), xs = ws.map (fun kv => (kV kv.1, kv.2)) ∧ RepKV K rho H kvs ws
  | [], kvs, xs, h, hx => by
    simp only [keysOf, Option.some.injEq] at h
    subst h
    exact ⟨[], List.eq_nil_of_length_eq_zero hx.1, rfl, Reps.nil⟩
  | (x, y) :: r, kvs, xs, h, hx => by
    simp only [keysOf] at h
    split at h
    · rename_i k ks h1 h2
      simp only [Option.some.injEq] at h
      subst h
      cases xs with
      | nil => have := hx.1; simp at this
      | cons q xs =>
        obtain ⟨v, w, e, r1, r2⟩ := hx.2 0 x y rfl
        simp only [List.getElem?_cons_zero, Option.some.injEq] at e
        subst e
        obtain ⟨ws, e1, e2⟩ := keysOf_rep (xs := xs) h2 ⟨by have := hx.1; simpa using this, fun i a b hh => by
          obtain ⟨a', b', g1, g2, g3⟩ := hx.2 (i + 1) a b (by simpa using hh)
          exact ⟨a', b', by simpa using g1, g2, g3⟩⟩
        refine ⟨(k, w) :: ws, ?_, ?_, ?_⟩
        · rw [e1, keyK_rep h1 r1]; rfl
        · simp only [List.map_cons]; rw [e2.1]
        · simp only [List.map_cons]; exact Reps.cons r2 e2.2
    · cases h
theorem mergeD_rep {K : PySem.W.Frag} {rho : List Addr} {H : Hp} : ∀ {more : List (Key × D)} {ws : List (Key × V)} {kvs : List (Key × D)} {vs : List (Key × V)}, RepKV K rho H more ws → RepKV K rho H kvs vs → RepKV K rho H (mergeD kvs more) (mergeK vs ws)
  | [], ws, kvs, vs, r, r0 => by
    cases ws with
    | nil => exact r0
    | cons _ _ => have := r.1; simp at this
  | (k, d) :: more, ws, kvs, vs, r, r0 => by
    cases ws with
    | nil => have := r.1; simp at this
    | cons q ws =>
      obtain ⟨q1, q2⟩ := q
      obtain ⟨h1, h2⟩ := r
      simp only [List.map_cons, List.cons.injEq] at h1
      simp only [List.map_cons, Reps] at h2
      obtain ⟨x, xs, e, r1, r2⟩ := h2
      cases e
      obtain ⟨h1a, h1b⟩ := h1
      subst h1a
      exact mergeD_rep (more := more) (ws := ws) ⟨h1b, r2⟩ (putD_rep r0 r1)
theorem ev_dict {f : EvP} {pos : Pos} {keys : List (Option Expr)} {values : List Expr} {trs : List (TE × TE)} (h : PPv G X W f pos keys values trs) (hall : keys.all (·.isSome) = true := by rfl) (hl : keys.length = values.length := by rfl) (h0 : keys ≠ [] := by exact List.cons_ne_nil _ _) (h15 : keys.length ≤ 15 := by decide) :
    PEv G X W (eDict f) (.Dict keys values pos) :=
  PE.weak (pe_disp h.pp hall hl h0 h15) fun σ H Q ⟨eta, M, rho, V, S, P⟩ p hp => by
    have E0 : Ext rho H (rho ++ [p]) (upd H p (.dK [])) := (Ext.laid hp).trans Ext.grow
    have S0 : StR G.K G.T (rho ++ [p]) (upd H p (.dK [])) (M ++ [.dicK []]) := S.alloc hp ⟨[], upd_same, rfl, Reps.nil⟩
    have hpn : (rho ++ [p])[M.length]? = some p := by rw [← S.len, List.getElem?_append_right (Nat.le_refl _)]; simp
    have P0 : Post G W σ (rho ++ [p]) (upd H p (.dK [])) (GoodD G.K Q) (eDict f eta M) := P.ext E0
    unfold eDict at P0
    refine h.so σ _ _ eta _ _ (V.mono E0) S0 (P0.bind.imp fun r1 H1 ps M1 e1 S1 P1 xs hx => ?_)
    split at P1
    · rename_i kvs hm hk
      split at P1
      · rename_i h15
        obtain ⟨ws, e2, e3⟩ := keysOf_rep hk hx
        have ha := e1.get hpn
        obtain ⟨vs, g1, g2⟩ := S1.at_ _ p _ ha hm
        have ev : vs = [] := by
          have := g2.2.length
          simp at this
          exact this
        subst ev
        have el : ws.length = kvs.length := by
          have := e3.2.length
          simpa using this
        have E1 : Ext r1 H1 r1 (upd H1 p (.dK (mergeK [] ws))) := Ext.write (by rw [g1]; trivial)
        refine ⟨g1, ws, e2, by rw [el]; exact h15, P1 r1 _ E1 (S1.write ha hm rfl rfl ⟨_, upd_same, (mergeD_rep e3 ⟨rfl, Reps.nil⟩).mono E1⟩) (.ref p) ?_⟩
        simp only [Rep]
        exact ⟨p, rfl, ha⟩
      · exact P1.elim
    · exact P1.elim
end
end Ev

/-! Ev, part K: defs, their table by levels, calls. -/
namespace Ev
open PySem L2
open PyProof.Rows (envOfC)

/-! ### what a value and an object speak of -/
mutual
def D.low (k : Nat) : D → Bool
  | .ref n => decide (n < k)
  | .tup ds => lowL k ds
  | .ktp ds => lowL k ds
  | _ => true
def lowL (k : Nat) : List D → Bool
  | [] => true
  | d :: ds => d.low k && lowL k ds
end
def MO.low (k : Nat) : MO → Bool
  | .lst ds => lowL k ds
  | .frz ds => lowL k ds
  | .dicK kvs => lowL k (kvs.map (·.2))
  | .dicT kvs => lowL k (kvs.map (·.2))
  | .ins _ fs => lowL k (fs.map (·.2))
mutual
def D.same : D → D → Bool
  | .non, .non => true
  | .bl a, .bl b => a == b
  | .int a, .int b => a == b
  | .str a, .str b => decide (a = b)
  | .tup as, .tup bs => sameL as bs
  | .ref a, .ref b => a == b
  | .cst a, .cst b => decide (a = b)
  | .ktp as, .ktp bs => sameL as bs
  | _, _ => false
def sameL : List D → List D → Bool
  | [], [] => true
  | a :: as, b :: bs => a.same b && sameL as bs
  | _, _ => false
end
mutual
theorem same_eq : ∀ (a b : D), a.same b = true → a = b
  | .non, b, h => by cases b <;> simp [D.same] at h ⊢
  | .bl a, b, h => by cases b <;> simp [D.same] at h ⊢; exact h
  | .int a, b, h => by cases b <;> simp [D.same] at h ⊢; exact h
  | .str a, b, h => by cases b <;> simp [D.same] at h ⊢; exact h
  | .ref a, b, h => by cases b <;> simp [D.same] at h ⊢; exact h
  | .cst a, b, h => by cases b <;> simp [D.same] at h ⊢; exact h
  | .tup as, b, h => by cases b <;> simp only [D.same, Bool.false_eq_true] at h; exact congrArg _ (sameL_eq as _ h)
  | .ktp as, b, h => by cases b <;> simp only [D.same, Bool.false_eq_true] at h; exact congrArg _ (sameL_eq as _ h)
theorem sameL_eq : ∀ (as bs : List D), sameL as bs = true → as = bs
  | [], bs, h => by cases bs <;> simp [sameL] at h ⊢
  | a :: as, bs, h => by
    cases bs with
    | nil => simp [sameL] at h
    | cons b bs =>
      simp only [sameL, Bool.and_eq_true] at h
      rw [same_eq a b h.1, sameL_eq as bs h.2]
end
mutual
theorem same_refl : ∀ a : D, a.same a = true
  | .non => rfl
  | .bl a => by simp [D.same]
  | .int a => by simp [D.same]
  | .str a => by simp [D.same]
  | .ref a => by simp [D.same]
  | .cst a => by simp [D.same]
  | .tup as => by simp only [D.same]; exact sameL_refl as
  | .ktp as => by simp only [D.same]; exact sameL_refl as
theorem sameL_refl : ∀ as : List D, sameL as as = true
  | [] => rfl
  | a :: as => by simp only [sameL, same_refl a, sameL_refl as, Bool.and_self]
end
def MO.same : MO → MO → Bool
  | .lst a, .lst b => sameL a b
  | .frz a, .frz b => sameL a b
  | .dicK a, .dicK b => decide (a.map (·.1) = b.map (·.1)) && sameL (a.map (·.2)) (b.map (·.2))
  | .dicT a, .dicT b => decide (a.map (·.1) = b.map (·.1)) && sameL (a.map (·.2)) (b.map (·.2))
  | .ins c a, .ins d b => (c == d) && (decide (a.map (·.1) = b.map (·.1)) && sameL (a.map (·.2)) (b.map (·.2)))
  | _, _ => false
theorem zip_eq {κ : Type} : ∀ {a b : List (κ × D)}, a.map (·.1) = b.map (·.1) → a.map (·.2) = b.map (·.2) → a = b
  | [], b, h, _ => by cases b with
    | nil => rfl
    | cons _ _ => simp at h
  | (x, y) :: a, b, h, h' => by
    cases b with
    | nil => simp at h
    | cons q b =>
      obtain ⟨u, v⟩ := q
      simp only [List.map_cons, List.cons.injEq] at h h'
      obtain ⟨rfl, h2⟩ := h
      obtain ⟨rfl, h3⟩ := h'
      rw [zip_eq h2 h3]
theorem MO.same_eq {a b : MO} (h : a.same b = true) : a = b := by
  cases a <;> cases b <;> simp only [MO.same, Bool.and_eq_true, decide_eq_true_eq, Bool.false_eq_true] at h
  · exact congrArg _ (sameL_eq _ _ h)
  · exact congrArg _ (sameL_eq _ _ h)
  · exact congrArg _ (zip_eq h.1 (sameL_eq _ _ h.2))
  · exact congrArg _ (zip_eq h.1 (sameL_eq _ _ h.2))
  · have := zip_eq h.2.1 (sameL_eq _ _ h.2.2)
    have e := eq_of_beq h.1
    subst this; subst e; rfl
theorem MO.same_refl (a : MO) : a.same a = true := by cases a <;> simp [MO.same, sameL_refl]
/-- the old objects speak of old ones alone (those that are as they were do anyhow) -/
def keptOk (k : Nat) : Store → Store → Bool
  | [], _ => true
  | m :: r, o :: s => (o.same m || o.low k) && keptOk k r s
  | _ :: _, [] => false
/-- what a def leaves: its own objects go, but for the one that it hands back -/
def gc (M0 : Store) (d : D) (M : Store) : Out D :=
  if keptOk M0.length M0 M = true then
    if d.low M0.length = true then .ok d (M.take M0.length)
    else (match d with
      | .ref n => (match M[n]? with
        | some (.frz _) => .ok d M
        | some o => if o.low M0.length = true then .ok (.ref M0.length) (M.take M0.length ++ [o]) else .ok d M
        | none => .ok d M)
      | _ => .ok d M)
  else .ok d M

section
variable {G : Gd} {K : PySem.W.Frag} {T rho rho' : List Addr} {H H' : Hp}
mutual
theorem Rep.low : ∀ (d : D) (v : V), Rep K rho H d v → d.low rho.length = true
  | .non, _, _ => rfl
  | .bl _, _, _ => rfl
  | .int _, _, _ => rfl
  | .str _, _, _ => rfl
  | .cst _, _, _ => rfl
  | .ref n, v, h => by
    simp only [Rep] at h
    obtain ⟨a, _, h2⟩ := h
    simp only [D.low, decide_eq_true_eq]
    exact (List.getElem?_eq_some_iff.mp h2).1
  | .tup ds, v, h => by
    simp only [Rep] at h
    obtain ⟨a, vs, _, _, h3⟩ := h
    simp only [D.low]
    exact Reps.low ds vs h3
  | .ktp ds, v, h => by
    simp only [Rep] at h
    obtain ⟨a, vs, _, _, h3⟩ := h
    simp only [D.low]
    exact Reps.low ds vs h3
theorem Reps.low : ∀ (ds : List D) (vs : List V), Reps K rho H ds vs → lowL rho.length ds = true
  | [], _, _ => rfl
  | d :: ds, vs, h => by
    simp only [Reps] at h
    obtain ⟨v, ws, _, h1, h2⟩ := h
    simp only [lowL, Bool.and_eq_true]
    exact ⟨Rep.low d v h1, Reps.low ds ws h2⟩
end
mutual
/-- fewer places are enough -/
theorem Rep.less (pre : rho <+: rho') : ∀ (d : D) (v : V), d.low rho.length = true → Rep K rho' H d v → Rep K rho H d v
  | .non, _, _, h => by simpa only [Rep] using h
  | .bl _, _, _, h => by simpa only [Rep] using h
  | .int _, _, _, h => by simpa only [Rep] using h
  | .str _, _, _, h => by simpa only [Rep] using h
  | .cst _, _, _, h => by simpa only [Rep] using h
  | .ref n, v, hb, h => by
    simp only [D.low, decide_eq_true_eq] at hb
    simp only [Rep] at h ⊢
    obtain ⟨a, h1, h2⟩ := h
    obtain ⟨t, rfl⟩ := pre
    rw [List.getElem?_append_left hb] at h2
    exact ⟨a, h1, h2⟩
  | .tup ds, v, hb, h => by
    simp only [D.low] at hb
    simp only [Rep] at h ⊢
    obtain ⟨a, vs, h1, h2, h3⟩ := h
    exact ⟨a, vs, h1, h2, Reps.less pre ds vs hb h3⟩
  | .ktp ds, v, hb, h => by
    simp only [D.low] at hb
    simp only [Rep] at h ⊢
    obtain ⟨a, vs, h1, h2, h3⟩ := h
    exact ⟨a, vs, h1, h2, Reps.less pre ds vs hb h3⟩
theorem Reps.less (pre : rho <+: rho') : ∀ (ds : List D) (vs : List V), lowL rho.length ds = true → Reps K rho' H ds vs → Reps K rho H ds vs
  | [], _, _, h => by simpa only [Reps] using h
  | d :: ds, vs, hb, h => by
    simp only [lowL, Bool.and_eq_true] at hb
    simp only [Reps] at h ⊢
    obtain ⟨v, ws, h1, h2, h3⟩ := h
    exact ⟨v, ws, h1, Rep.less pre d v hb.1 h2, Reps.less pre ds ws hb.2 h3⟩
end
theorem RepO.low {a : Addr} {o : MO} (h : RepO K T rho H a o) : o.low rho.length = true := by
  cases o with
  | lst ds => obtain ⟨vs, _, h2⟩ := h; exact Reps.low _ _ h2
  | frz ds => obtain ⟨vs, _, h2⟩ := h; exact Reps.low _ _ h2
  | dicK ds => obtain ⟨vs, _, h2⟩ := h; exact Reps.low _ _ h2.2
  | dicT ds => obtain ⟨vs, _, h2⟩ := h; exact Reps.low _ _ h2.2
  | ins c ds => obtain ⟨C, dx, vs, _, _, h2⟩ := h; exact Reps.low _ _ h2.2
theorem RepO.less (pre : rho <+: rho') {a : Addr} {o : MO} (hb : o.low rho.length = true) (h : RepO K T rho' H a o) : RepO K T rho H a o := by
  cases o with
  | lst ds => obtain ⟨vs, h1, h2⟩ := h; exact ⟨vs, h1, Reps.less pre _ _ hb h2⟩
  | frz ds => obtain ⟨vs, h1, h2⟩ := h; exact ⟨vs, h1, Reps.less pre _ _ hb h2⟩
  | dicK ds => obtain ⟨vs, h1, h2⟩ := h; exact ⟨vs, h1, h2.1, Reps.less pre _ _ hb h2.2⟩
  | dicT ds => obtain ⟨vs, h1, h2⟩ := h; exact ⟨vs, h1, h2.1, Reps.less pre _ _ hb h2.2⟩
  | ins c ds => obtain ⟨C, dx, vs, h0, h1, h2⟩ := h; exact ⟨C, dx, vs, h0, h1, h2.1, Reps.less pre _ _ hb h2.2⟩
theorem keptOk_at {k : Nat} : ∀ {M0 M : Store}, keptOk k M0 M = true → M0.length ≤ M.length ∧ ∀ (i : Nat) (m : MO), M0[i]? = some m → ∃ o : MO, M[i]? = some o ∧ (o = m ∨ o.low k = true)
  | [], M, _ => ⟨Nat.zero_le _, fun i m h => by simp at h⟩
  | m :: r, [], h => by simp [keptOk] at h
  | m :: r, o :: s, h => by
    simp only [keptOk, Bool.and_eq_true, Bool.or_eq_true] at h
    obtain ⟨h1, h2⟩ := keptOk_at h.2
    refine ⟨by simpa using h1, fun i x hx => ?_⟩
    cases i with
    | zero =>
      simp at hx; subst hx
      exact ⟨o, rfl, h.1.imp (fun z => MO.same_eq z) fun z => z⟩
    | succ i =>
      obtain ⟨p, h3, h4⟩ := h2 i x (by simpa using hx)
      exact ⟨p, by simpa using h3, h4⟩
/-- the old places alone -/
theorem StR.cut {M0 M : Store} (S0 : StR K T rho H M0) (S : StR K T rho' H' M) (e : Ext rho H rho' H') (h : keptOk M0.length M0 M = true) : StR K T rho H' (M.take M0.length) := by
  obtain ⟨hl, ha⟩ := keptOk_at h
  have at0 : ∀ {i : Nat} {o : MO}, (M.take M0.length)[i]? = some o → i < M0.length ∧ M[i]? = some o := fun {i o} q => by
    have h1 := (List.getElem?_eq_some_iff.mp q).1
    rw [List.length_take] at h1
    have h2 : i < M0.length := by omega
    rw [List.getElem?_take_of_lt h2] at q
    exact ⟨h2, q⟩
  refine ⟨?_, fun i j a o u h1 h2 h3 h4 f1 f2 => ?_, fun i a o h1 h2 => ?_⟩
  · rw [S0.len, List.length_take]; omega
  · exact S.inj i j a o u (e.get h1) (e.get h2) (at0 h3).2 (at0 h4).2 f1 f2
  · obtain ⟨hi, hm⟩ := at0 h2
    have hr := S.at_ i a o (e.get h1) hm
    obtain ⟨m0, hm0⟩ : ∃ m0, M0[i]? = some m0 := ⟨M0[i], List.getElem?_eq_getElem hi⟩
    obtain ⟨o', ho', hb⟩ := ha i m0 hm0
    rw [hm] at ho'; cases ho'
    refine hr.less e.pre ?_
    rcases hb with z | z
    · subst z; exact (S0.at_ i a o h1 hm0).low
    · rw [S0.len]; exact z
theorem Ext.cut (e : Ext rho H rho' H') : Ext rho H rho H' := ⟨List.prefix_refl _, e.tups, e.frzs⟩
theorem gc_rep {M0 M M1 : Store} {d d1 : D} {v : V} (S0 : StR K T rho H M0) (S : StR K T rho' H' M) (e : Ext rho H rho' H') (r : Rep K rho' H' d v) (h : gc M0 d M = .ok d1 M1) :
    ∃ rho1, Ext rho H rho1 H' ∧ StR K T rho1 H' M1 ∧ Rep K rho1 H' d1 v := by
  unfold gc at h
  split at h
  · rename_i hk
    have S1 := StR.cut S0 S e hk
    split at h
    · rename_i hb
      cases h
      exact ⟨rho, e.cut, S1, Rep.less e.pre d v (by rw [S0.len]; exact hb) r⟩
    · rename_i hb
      split at h
      · rename_i n
        have same : ∃ rho1, Ext rho H rho1 H' ∧ StR K T rho1 H' M ∧ Rep K rho1 H' (.ref n) v := ⟨rho', e, S, r⟩
        split at h
        · cases h; exact same
        · rename_i o hnf hm
          split at h
          · rename_i hob
            cases h
            obtain ⟨a, rfl, ha⟩ := rep_ref r
            have ho := S.at_ n a o ha hm
            have hfz : o.isFrz = false := by cases o <;> first | rfl | exact absurd rfl (hnf _)
            have hn : M0.length ≤ n := by
              simp only [D.low, decide_eq_true_eq] at hb
              omega
            have el : (M.take M0.length).length = M0.length := by
              have := S1.len
              rw [S0.len] at this; exact this.symm
            have hkl : rho.length = M0.length := S0.len
            refine ⟨rho ++ [a], e.cut.trans Ext.grow, ⟨by simp [hkl, el], fun i j b p q h1 h2 h3 h4 f1 f2 => ?_, fun i b p h1 h2 => ?_⟩, ?_⟩
            · have sp : ∀ (i : Nat) (b : Addr) (p : MO), (rho ++ [a])[i]? = some b → (M.take M0.length ++ [o])[i]? = some p → (rho[i]? = some b ∧ (M.take M0.length)[i]? = some p ∧ i < M0.length) ∨ (i = M0.length ∧ b = a ∧ p = o) := fun i b p g1 g2 => by
                by_cases hi : i < M0.length
                · rw [List.getElem?_append_left (by omega)] at g1 g2
                  exact .inl ⟨g1, g2, hi⟩
                · have hi' : i = M0.length := by
                    have := (List.getElem?_eq_some_iff.mp g1).1
                    simp at this; omega
                  subst hi'
                  rw [List.getElem?_append_right (by omega), hkl] at g1
                  rw [List.getElem?_append_right (by omega), el] at g2
                  simp at g1 g2
                  exact .inr ⟨rfl, g1.symm, g2.symm⟩
              have up : ∀ (i : Nat) (b : Addr) (p : MO), rho[i]? = some b → (M.take M0.length)[i]? = some p → i < M0.length → b = a → p.isFrz = false → False := fun i b p g1 g2 g3 g4 g5 => by
                subst g4
                rw [List.getElem?_take_of_lt g3] at g2
                have := S.inj i n b p o (e.get g1) ha g2 hm g5 hfz
                omega
              rcases sp i b p h1 h3 with ⟨a1, a2, a3⟩ | ⟨a1, a2, a3⟩ <;> rcases sp j b q h2 h4 with ⟨b1, b2, b3⟩ | ⟨b1, b2, b3⟩
              · exact S1.inj i j b p q a1 b1 a2 b2 f1 f2
              · exact (up i b p a1 a2 a3 b2 f1).elim
              · exact (up j b q b1 b2 b3 a2 f2).elim
              · omega
            · by_cases hi : i < M0.length
              · rw [List.getElem?_append_left (by omega)] at h1 h2
                exact (S1.at_ i b p h1 h2).mono Ext.grow fun _ => rfl
              · have hi' : i = M0.length := by
                  have := (List.getElem?_eq_some_iff.mp h1).1
                  simp at this; omega
                subst hi'
                rw [List.getElem?_append_right (by omega), hkl] at h1
                rw [List.getElem?_append_right (by omega), el] at h2
                simp at h1 h2
                subst h1; subst h2
                exact (ho.less e.pre (by rw [hkl]; exact hob)).mono Ext.grow fun _ => rfl
            · simp only [Rep]
              exact ⟨a, rfl, by rw [List.getElem?_append_right (by omega), hkl]; simp⟩
          · cases h; exact same
        · cases h; exact same
      · cases h; exact ⟨rho', e, S, r⟩
  · cases h; exact ⟨rho', e, S, r⟩
theorem gc_ok (M0 : Store) (d : D) (M : Store) : ∃ d1 M1, gc M0 d M = .ok d1 M1 := by
  unfold gc
  split
  · split
    · exact ⟨_, _, rfl⟩
    · split
      · split
        · exact ⟨_, _, rfl⟩
        · split <;> exact ⟨_, _, rfl⟩
        · exact ⟨_, _, rfl⟩
      · exact ⟨_, _, rfl⟩
  · exact ⟨_, _, rfl⟩
end

/-! ### the table of the defs -/
abbrev Tab := Nat → List D → Store → Out D
structure Fn where
  /-- how many names, how many parameters -/
  nn : Nat
  np : Nat
  body : Tab → EvS
def finS (M0 : Store) : OutS → Out D
  | .rt d M => gc M0 d M
  | .nx _ M => gc M0 .non M
  | .exc x fs _ M => .exc x fs M
  | _ => .bad
def runFn (F : Fn) (T : Tab) (args : List D) (M : Store) : Out D :=
  if args.length = F.np then finS M (F.body T (args.map some ++ List.replicate (F.nn - F.np) none) M) else .bad
def tabOf (P : List Fn) : Nat → Tab
  | 0 => fun _ _ _ => .bad
  | k + 1 => fun i args M => match P[i]? with
    | some F => runFn F (tabOf P k) args M
    | none => .bad
def eCall (T : Tab) (i : Nat) (g : EvL) : EvE := fun eta M => (g eta M).bind fun ds M1 => T i ds M1

/-- what a def promises: what the table says -/
def spT (G : Gd) (t : List D → Store → Out D) : Sp := fun vs H Q E => ∃ M rho ds, StR G.K G.T rho H M ∧ Reps G.K rho H ds vs ∧ Post G (fun c d _ H' => E c d H') [] rho H (GoodD G.K Q) (t ds M)

/-- the def at f keeps its promise where there is room and no repr runs -/
def FG (P : Program) (w : World) (K : PySem.W.Frag) (mg : Str → Option Value) (base : Heap) (k : Nat) (f : Addr) (sp : Sp) : Prop :=
  ∀ (A : Around) (outer : List PySem.Env) (s : Shared) (H : Hp) (us : List Value) (vs : List V) (Q : VK) (E : XK), Room k A → A.guards = some [] → Env0 P w K mg base A outer s H → Vals vs us → sp vs H Q E →
    codeAny (model P w) A (.call (.ref f) ⟨us, []⟩) (CR (L2.CX P w) outer P w H s Q E) s
theorem FG.mono {P : Program} {w : World} {K : PySem.W.Frag} {mg : Str → Option Value} {base : Heap} {j k : Nat} {f : Addr} {sp : Sp} (F : FG P w K mg base j f sp) (h : j ≤ k) : FG P w K mg base k f sp :=
  fun A outer s H us vs Q E hr => F A outer s H us vs Q E (hr.mono h)

section
variable {G : Gd} {X : Cx} {W : WX}
theorem fg_run {pins : List (Addr × Obj)} {σ : St} {H : Hp} {s : Shared} {Q : VK} {us : List Value} {vs : List V} {k : Nat} {f : Addr} {sp : Sp} (F : FG X.prog X.w X.K X.mg X.base k f sp) (hr : Room k X.A) (hgu : X.A.guards = some []) (tk : Takes X W)
    (I : Inv X pins σ H s) (r : Vals vs us) (h : sp vs H Q fun c d H' => W c d σ H') : wpAny (model X.prog X.w) X.A (call (.ref f) us) (EP X pins σ Q) X.xe s :=
  wpAny_call (codeAny_mono (F X.A X.stack s H us vs Q _ hr hgu I.env0 r h) fun res s1 hq => by
    cases res with
    | error er => exact tk er s1 (XE.of_call I (fun _ _ _ z => z) hq)
    | ok fl => cases fl <;> first | exact I.after hq | exact False.elim hq)
theorem ev_call {t : Tab} {i k : Nat} {f : Addr} {g : EvL} {x : Str} {p pos : Pos} {e : Expr} {es : List Expr} (F : FG X.prog X.w X.K X.mg X.base k f (spT G (t i))) (hr : Room k X.A) (hgu : X.A.guards = some []) (tk : Takes X W) (hm : X.mg x = some (.ref f)) (hk : PySem.W.keepIn X.K (.ref f) = true)
    (ha : PLv G X W g (e :: es)) (hg : Gl X x := by rfl) (hdb : (x == ("__debug__" : Str)) = false := by decide) (he : starEach (e :: es) X.env = (false, eval e X.env) :: starEach es X.env := by rfl) (hpl : (backTo pos (starEach es X.env)).any (·.1) = false := by rfl) :
    PEv G X W (eCall t i g) (.Call (.Name x p) (e :: es) [] pos) :=
  ⟨fun pins s σ H Q I ⟨eta, M, rho, V, S, P⟩ => wpAny_Call_Name_kw (ld_glob I hg hm (PySem.W.callWith_K (h₀ := X.base) I.ok.mod.kin hk
    (thn (ha.run pos pins s σ H (fun vs H1 => spT G (t i) vs H1 Q fun c d H' => W c d σ H') I ⟨eta, M, rho, V, S, P.bind.imp fun r1 H1 ds M1 e1 S1 P1 vs rvs => ⟨M1, r1, ds, S1, rvs, by
        cases hq : t i ds M1 with
        | ok d M2 => rw [hq] at P1; exact P1
        | exc x fs M2 => rw [hq] at P1; exact P1
        | bad => rw [hq] at P1; exact P1⟩⟩)
      fun us s1 ⟨vs, H1, I1, r, q⟩ => ⟨I1.kIn, fg_run F hr hgu tk I1 r q⟩) he hpl) hdb)⟩
theorem ev_call0 {t : Tab} {i k : Nat} {f : Addr} {x : Str} {p pos : Pos} (F : FG X.prog X.w X.K X.mg X.base k f (spT G (t i))) (hr : Room k X.A) (hgu : X.A.guards = some []) (tk : Takes X W) (hm : X.mg x = some (.ref f)) (hk : PySem.W.keepIn X.K (.ref f) = true)
    (hg : Gl X x := by rfl) (hdb : (x == ("__debug__" : Str)) = false := by decide) : PEv G X W (eCall t i lNil) (.Call (.Name x p) [] [] pos) :=
  ⟨fun pins s σ H Q I ⟨eta, M, rho, V, S, P⟩ => wpAny_Call_Name_kw (ld_glob I hg hm (PySem.W.callWith_K0 I.kIn hk (fg_run (us := []) F hr hgu tk I .nil ⟨M, rho, [], S, Reps.nil, by
        have P1 : Post G W σ rho H (GoodD G.K Q) (t i [] M) := P
        cases hq : t i [] M with
        | ok d M2 => rw [hq] at P1; exact P1
        | exc x fs M2 => rw [hq] at P1; exact P1
        | bad => rw [hq] at P1; exact P1⟩)) hdb)⟩
end

/-! ### a def by its body -/
/-- the slots at the entry -/
theorem env_start {K : PySem.W.Frag} {rho : List Addr} {H : Hp} {ds : List D} {vs : List V} {N : List Str} {nn : Nat} (r : Reps K rho H ds vs) (hn : N.length = nn) : EnvR K rho H (ds.map some ++ List.replicate (nn - ds.length) none) (L2.start N vs) := by
  have hl := r.length
  refine ⟨by simp [L2.start, hl, hn], fun i d h => ?_⟩
  by_cases hi : i < ds.length
  · rw [List.getElem?_append_left (by simpa using hi), List.getElem?_map] at h
    cases e : ds[i]? with
    | none => rw [e] at h; simp at h
    | some d' =>
      rw [e] at h
      simp at h; subst h
      obtain ⟨v, h1, h2⟩ := r.get e
      refine ⟨v, ?_, h2⟩
      unfold L2.start
      rw [List.getElem?_append_left (by simp; omega), List.getElem?_map, h1]; rfl
  · rw [List.getElem?_append_right (by simpa using hi)] at h
    have := (List.getElem?_eq_some_iff.mp h).2
    simp at this
/-- THE RULE: a def of the text keeps the table's promise, by its body's evaluation -/
theorem fg_of {G : Gd} {P : Program} {w : World} {mg : Str → Option Value} {base : Heap} {k : Nat} {f : Addr} {x qual : Str} {st : Stmt} {fd : FuncData} {N ps : List Str} {F : Fn} {t : Tab} {ti : List D → Store → Out D} (Fu : Fun G.K x qual st f fd) (bi : Binds G.K fd ps []) (S : FnScope N ps (defScope st))
    (hnn : N.length = F.nn) (hnp : ps.length = F.np) (hti : ∀ ds M, ti ds M = runFn F t ds M)
    (hbody : ∀ (cdv : Value) (A : Around) (outer : List PySem.Env) (s : Shared) (H : Hp) (E : XK), Room k (A.deeper (envOfC qual (defScope st) s.heap.objs.size f cdv)) → A.guards = some [] →
      Takes (cxOf (L2.CX P w) P w G.K mg base N qual (defScope st) f cdv A outer s H E) (fun c d _ H' => E c d H') → PassesOwn (model P w) (A.deeper (envOfC qual (defScope st) s.heap.objs.size f cdv)) (envOfC qual (defScope st) s.heap.objs.size f cdv) (cxOf (L2.CX P w) P w G.K mg base N qual (defScope st) f cdv A outer s H E).xe →
      PSsv G (cxOf (L2.CX P w) P w G.K mg base N qual (defScope st) f cdv A outer s H E) (fun c d _ H' => E c d H') (F.body t) (defBody st)) :
    FG P w G.K mg base (k + 1) f (spT G ti) := by
  obtain ⟨oc, od, kV, doc, pm, an, cdv, ct, osl, efd, lk, hcd⟩ := Fu.ex
  subst efd
  intro A outer s H us vs Q E hr hgu e0 rv ⟨M, rho, ds, St0, rs, P0⟩
  rw [hti] at P0
  unfold runFn at P0
  split at P0
  case isFalse => exact P0.elim
  rename_i hlen
  have hvl : vs.length = ps.length := by rw [rs.length, hlen, hnp]
  have hul : (us ++ []).length = ps.length := by rw [List.append_nil, ← rv.length, hvl]
  have kin : G.K.In s.heap := e0.mod.kin.keeps fun b o e => (e0.bs b o e).1
  have lim : s.heap.NoLimit := e0.mod.nolimit.keeps fun b o e => (e0.bs b o e).1
  have bnd := bi s us kin hul
  rw [List.append_nil] at bnd
  have pk : ∀ y ∈ ps.zip us, (defScope st).names.lookup y.1 = some .local ∨ ((defScope st).names.lookup y.1 = some .cell ∧ ((cellsFrom (s.heap.objs.size + 1) (defScope st).names []).lookup y.1).isSome = true) := by
    rintro ⟨n, v⟩ hy
    rcases S.par n (List.of_mem_zip hy).1 with q | q
    · exact .inl q
    · exact .inr ⟨q, PySem.W.cellsFrom_some _ _ _ (.inl q)⟩
  refine codeAny_call_function hr.depth (kin _ _ lk) rfl S.co S.gen rfl (PySem.W.codeRec_of kin hcd) (bnd _ _ _ _ ?_)
  refine wpAny_newFunctionEnv_cells S.kind pk fun env he s1 xx => ?_
  subst he
  refine ⟨lim.keeps xx.toInCall.keep, codeAny_func ?_⟩
  have rm : Room k (A.deeper (envOfC qual (defScope st) s.heap.objs.size f cdv)) := hr.deeper _
  have J : Inv (cxOf (L2.CX P w) P w G.K mg base N qual (defScope st) f cdv A outer s H E) [] (L2.start N vs) H s1 := inv_start S hr.hd e0 hvl rv xx
  have hb := hbody cdv A outer s H E rm hgu (takes_of rfl rfl rfl rfl) (passes_of rfl)
  have hEnv : EnvR G.K rho H (ds.map some ++ List.replicate (F.nn - F.np) none) (L2.start N vs) := by rw [← hlen]; exact env_start rs hnn
  refine wpAny_mono (hb.run [] s1 (L2.start N vs) H { nx := fun _ H' => Q .non H', rt := Q } J ⟨_, M, rho, hEnv, St0, ?_⟩) (fun fl s2 hs => ?_) fun er s2 hs => hs
  · cases e : F.body t (ds.map some ++ List.replicate (F.nn - F.np) none) M with
    | rt d M1 =>
      rw [e] at P0
      intro r1 H1 v e1 S1 R1
      obtain ⟨d1, M2, hg⟩ := gc_ok M d M1
      obtain ⟨r2, e2, S2, R2⟩ := gc_rep St0 S1 e1 R1 hg
      have P1 : Post G (fun c d _ H' => E c d H') [] rho H (GoodD G.K Q) (gc M d M1) := P0
      rw [hg] at P1
      exact P1 r2 H1 e2 S2 v R2
    | nx eta1 M1 =>
      rw [e] at P0
      intro r1 H1 σ1 e1 S1 V1
      obtain ⟨d1, M2, hg⟩ := gc_ok M .non M1
      obtain ⟨r2, e2, S2, R2⟩ := gc_rep (v := .non) St0 S1 e1 (by simp [Rep]) hg
      have P1 : Post G (fun c d _ H' => E c d H') [] rho H (GoodD G.K Q) (gc M .non M1) := P0
      rw [hg] at P1
      exact P1 r2 H1 e2 S2 .non R2
    | bk eta1 M1 => rw [e] at P0; exact P0.elim
    | ct eta1 M1 => rw [e] at P0; exact P0.elim
    | exc x fs eta1 M1 =>
      rw [e] at P0
      exact fun r1 H1 σ1 cls dd e1 S1 V1 X1 => P0 r1 H1 cls dd e1 S1 X1
    | bad => rw [e] at P0; exact P0.elim
  · cases fl with
    | ret u =>
      obtain ⟨v, σ1, H1, J1, r1, q⟩ := hs
      exact ⟨v, H1, J1.os, J1.bare, J1.base, J1.hok, r1, q⟩
    | next =>
      obtain ⟨σ1, H1, J1, q⟩ := hs
      exact ⟨V.non, H1, J1.os, J1.bare, J1.base, J1.hok, rfl, q⟩
    | brk => obtain ⟨_, _, _, q⟩ := hs; exact False.elim q
    | cont => obtain ⟨_, _, _, q⟩ := hs; exact False.elim q
/-- nothing is promised at level 0 -/
theorem fg_zero {G : Gd} {P : Program} {w : World} {mg : Str → Option Value} {base : Heap} {f : Addr} : FG P w G.K mg base 0 f (spT G fun _ _ => .bad) :=
  fun A outer s H us vs Q E _ _ _ _ ⟨M, rho, ds, _, _, q⟩ => q.elim
end Ev

/-! Ev, part L: the law's end. -/
namespace Ev
open PySem PySem.Spec PyProof.Rows L2

theorem reps_ints {K : PySem.W.Frag} {rho : List Addr} {H : Hp} : ∀ ns : List Int, Reps K rho H (ns.map D.int) (ns.map V.int)
  | [] => by simp [Reps]
  | n :: ns => by
    simp only [List.map_cons, Reps]
    exact ⟨_, _, rfl, by simp [Rep], reps_ints ns⟩

theorem law_ev {P : Program} {w : World} {G : Gd} {mg mb : Str → Option Value} {k : Nat} {fa a : Addr} {t : List D → Store → Out D} {s₁ : Shared} {vs : List Value} {ns : List Int}
    (KX : G.K.In s₁.heap) (hns : s₁.heap.Ns mainGlobals mg) (hb : s₁.heap.Ns builtinsNs mb) (hbb : ∀ x : Str, x ≠ "__name__" → mb x = bootBuiltins x) (hlim : s₁.heap.NoLimit) (hg : s₁.gens = #[])
    (ha : s₁.heap.get? a = some { cls := .type "list", data := .seq vs.toArray }) (hi : IntsAre vs ns) (hl : ns.length ≤ sizeLine) (hr : Room k callerA)
    (F : ∀ base : Heap, G.K.In base → base.Ns mainGlobals mg → FG P w G.K mg base k fa (spT G t)) (ht : ∃ M, t [.ref 0] [.frz (ns.map D.int)] = .ok (.bl true) M) :
    codeAny (model P w) callerA (.call (.ref fa) ⟨[.ref a], []⟩) (fun r s' => r = .ok (.ret (.bool true)) ∧ OldK s₁.heap s'.heap ∧ s'.os = s₁.os ∧ AllBare s'.gens) s₁ := by
  have rv := vals_ints hi
  have lenV := hi.length
  have core : ∀ H : Hp, Only H → FrzL G.K H a (ns.map V.int) → HOk P w H s₁.heap → (∀ b, H b ≠ none → b = a) → (H a ≠ none → G.K.lookup a = none) →
      codeAny (model P w) callerA (.call (.ref fa) ⟨[.ref a], []⟩) (fun r s' => r = .ok (.ret (.bool true)) ∧ OldK s₁.heap s'.heap ∧ s'.os = s₁.os ∧ AllBare s'.gens) s₁ := by
    intro H hO hS hok hA hK
    have base_of : ∀ {b : Addr} {o : Obj}, s₁.heap.get? b = some o → H b = none → (hidT s₁.heap H).get? b = some o := fun e n => hidT_get e n
    have noA : ∀ {b : Addr} {o : Obj} {es : Array DictEntry} {ep : Nat}, s₁.heap.get? b = some o → o.data = .dict es ep → H b = none := fun {b o es ep} e dd => by
      cases q : H b with
      | none => rfl
      | some u =>
        have e' : b = a := hA b (by rw [q]; simp)
        subst e'
        rw [ha] at e; cases e
        have d' : Data.seq vs.toArray _ = Data.dict es ep := dd
        cases d'
    have nsK : ∀ {b : Addr} {m : Str → Option Value}, s₁.heap.Ns b m → (hidT s₁.heap H).Ns b m := fun {b m} ⟨o, es, ep, e, dd, r⟩ => ⟨o, es, ep, base_of e (noA e dd), dd, r⟩
    have hKb : G.K.In (hidT s₁.heap H) := fun b o e => base_of (KX b o e) (by
      cases q : H b with
      | none => rfl
      | some u =>
        have e' : b = a := hA b (by rw [q]; simp)
        subst e'
        rw [hK (by rw [q]; simp)] at e; cases e)
    have hM : Mod G.K mg (hidT s₁.heap H) := ⟨hKb, nsK hns, ⟨mb, nsK hb, hbb⟩, let ⟨mc, h1, h2⟩ := hlim; ⟨mc, nsK h1, h2⟩⟩
    have e0 : Env0 P w G.K mg (hidT s₁.heap H) callerA [] s₁ H := ⟨rfl, hM, fun b o e => of_hidT e, Nat.le_of_eq (hidT_size _ _), trivial, fun b hb => absurd (show b ∈ ([] : List Addr) from hb) (by simp), hok, .of_eq hg⟩
    obtain ⟨M, ht⟩ := ht
    have hst : StR G.K G.T [a] H [.frz (ns.map D.int)] := ⟨rfl, fun i j b o u h1 h2 h3 h4 f1 f2 => by
        have hi0 : i = 0 := by
          have := (List.getElem?_eq_some_iff.mp h1).1
          simp at this; exact this
        have hj0 : j = 0 := by
          have := (List.getElem?_eq_some_iff.mp h2).1
          simp at this; exact this
        rw [hi0, hj0], fun i b o h1 h2 => by
        have hi0 : i = 0 := by
          have := (List.getElem?_eq_some_iff.mp h1).1
          simp at this; exact this
        subst hi0
        simp at h1 h2
        subst h1; subst h2
        exact ⟨_, hS, reps_ints ns⟩⟩
    have hsp : spT G t [.ref a] H (fun v _ => v = .bl true) fun _ _ _ => False :=
      ⟨[.frz (ns.map D.int)], [a], [.ref 0], hst, by simp [Reps, Rep], by
        rw [ht]
        exact fun r1 H1 e1 S1 v rv1 => rep_bl rv1⟩
    refine codeAny_mono (F _ hKb (nsK hns) callerA [] s₁ H [.ref a] [.ref a] _ _ hr rfl e0 (.cons rfl .nil) hsp) fun r s' h => ?_
    cases r with
    | error e =>
      obtain ⟨_, _, _, _, _, _, _, _, _, _, _, _, hf⟩ := h
      exact hf.elim
    | ok fl =>
      cases fl with
      | next => exact False.elim h
      | brk => exact False.elim h
      | cont => exact False.elim h
      | ret u =>
        obtain ⟨v, H', os, bare, un, hok', r', q⟩ := h
        have q' : v = .bl true := q
        subst q'
        obtain rfl : u = Value.bool true := r'
        refine ⟨rfl, OldK.of_keep fun b o e => ?_, os, bare⟩
        cases q : H b with
        | none => exact un.keep b o e q (by intro z; exact absurd (show b ∈ ([] : List Addr) from z) (by simp)) (by simp)
        | some u =>
          rcases hO b with z | ⟨ob, xs, z⟩
          · rw [q] at z; cases z
          · have z2 := un.frzs b ob _ z
            obtain ⟨e1, _⟩ := hok b _ z
            obtain ⟨e2, _⟩ := hok' b _ z2
            rw [e] at e1; cases e1
            exact e2
  cases hk : G.K.lookup a with
  | some o =>
    have e := KX a o hk
    rw [ha] at e
    cases e
    refine core (fun _ => none) (fun _ => .inl rfl) (.inr ⟨_, vs.toArray, _, hk, rfl, rfl, rfl, by rw [List.size_toArray, lenV]; exact hl, by simpa using rv⟩) (fun b u z => by have z' : (none : Option HO) = some u := z; cases z') (fun b z => absurd rfl z) fun z => absurd rfl z
  | none =>
    refine core (fun b => if b = a then some (.frz { cls := .type "list", data := .seq vs.toArray } (.lst (ns.map V.int))) else none) (fun b => ?_) (.inl ⟨{ cls := .type "list", data := .seq vs.toArray }, if_pos rfl⟩) (fun b u z => ?_) (fun b z => ?_) fun _ => hk
    · by_cases hb : b = a
      · exact .inr ⟨_, _, if_pos hb⟩
      · exact .inl (if_neg hb)
    · by_cases hb : b = a
      · have z' := (if_pos hb).symm.trans z
        cases z'
        subst hb
        exact ⟨ha, by rw [List.length_map]; exact hl, vs, _, rv, ha⟩
      · have z' := (if_neg hb).symm.trans z
        cases z'
    · by_cases hb : b = a
      · exact hb
      · exact absurd (if_neg hb) z

/-- what k_head leaves of a law, from its table's answer at every script -/
theorem walk_ev {l : PySem.W.OpenLaw} {n k : Nat} {q : Program} {loose : List Str} {XP : (Str → Option Value) → Heap → Prop} {YP : World → Heap → Prop} {d : DefRec} {K : Params → PySem.W.Frag} {t : List D → Store → Out D}
    (hn : l.most = some n) (hn2 : n ≤ sizeLine) (hdf : d.params.defaults = []) (hr : Room k callerA)
    (hY : ∀ (w : World) (h : Heap), YP w h → (K w.params).In h)
    (F : ∀ (w : World) (mg : Str → Option Value) (fa : Addr) (h : Heap), (K w.params).In h → h.Ns mainGlobals mg → mg d.name = some (.ref fa) →
      ∃ T XT : List Addr, ∀ base : Heap, (K w.params).In base → base.Ns mainGlobals mg → FG l.prog w (K w.params) mg base k fa (spT ⟨K w.params, T, XT⟩ t))
    (ht : ∀ ns : List Int, ns.length ≤ n → ∃ M, t [.ref 0] [.frz (ns.map D.int)] = .ok (.bl true) M) :
    PySem.W.WalkO q loose XP YP l.row.toRowW d [] (fun f vs => PySem.call f vs) := by
  refine Att.attach_call hn hdf fun w s₀ s₁ mg mb fa o pm cd doc a vs ns G Y ho hd hcd hmg hobj hints hlen hg => ?_
  have KX := hY w _ Y
  obtain ⟨T, XT, hF⟩ := F w mg fa _ KX G.T.g hmg
  exact law_ev (G := ⟨K w.params, T, XT⟩) KX G.T.g G.T.b G.T.builtins G.T.nolimit hg hobj hints (Nat.le_trans hlen hn2) hr hF (ht ns hlen)
end Ev

/-! Ev, part M: bools as values, chains, the bundle of a context's facts. -/
namespace Ev
open PySem L2

section
variable {G : Gd} {X : Cx} {W : WX}
theorem takes_no {Y : Cx} : Takes Y Wno := fun _ _ ⟨_, _, _, _, _, _, _, _, _, _, _, _, _, _, _, _, w⟩ => w.elim
/-- what a def's context has -/
structure Okk (G : Gd) (X : Cx) (k : Nat) : Prop where
  hK : X.K = G.K
  calm : X.calm = true
  nd : X.N.Nodup
  room : Room k X.A
  gu : X.A.guards = some []
theorem Okk.u1 {k : Nat} (o : Okk G X k) : X.A.units + 160 < cLine := by have := o.room.un; omega
theorem Okk.u2 {k : Nat} (o : Okk G X k) : X.A.units + 1 < cLine := by have := o.room.un; omega

theorem ev_or1 {op : BoolOp} {f : EvE} {a : Expr} {pos : Pos} (h : PEv G X W f a) : PEv G X W f (.BoolOp op [a] pos) := pe_one h
theorem ev_and (hK : X.K = G.K) {f g : EvE} {a b : Expr} {rest : List Expr} {pos : Pos} (ha : PEv G X W f a) (hb : PEv G X W g (.BoolOp .And (b :: rest) pos)) : PEv G X W (eAn f g) (.BoolOp .And (a :: b :: rest) pos) :=
  PE.weak (pe_andT ha hb) fun σ H Q ⟨eta, M, rho, E, S, P⟩ => ⟨eta, M, rho, E, S, P.bind.imp fun r1 H1 x M1 e1 S1 P1 v rv => by
    obtain ⟨k, h1, h2⟩ := truthD_ok (W := W) (σ := σ) (Q := fun c H' => H' = H1 → if c = true then tE G W g σ H' Q else Q v H') hK S1 rv (P1.bind.imp fun r2 H2 c M2 e2 S2 P2 hh => by
      subst hh
      cases c with
      | true => exact ⟨eta, M2, r2, (E.mono e1).mono e2, S2, P2⟩
      | false => exact P2.now S2 v (Rep.mono e2 _ _ rv))
    exact ⟨k, h1, h2 rfl⟩⟩
theorem ev_or (hK : X.K = G.K) {f g : EvE} {a b : Expr} {rest : List Expr} {pos : Pos} (ha : PEv G X W f a) (hb : PEv G X W g (.BoolOp .Or (b :: rest) pos)) : PEv G X W (eOrr f g) (.BoolOp .Or (a :: b :: rest) pos) :=
  PE.weak (pe_orT ha hb) fun σ H Q ⟨eta, M, rho, E, S, P⟩ => ⟨eta, M, rho, E, S, P.bind.imp fun r1 H1 x M1 e1 S1 P1 v rv => by
    obtain ⟨k, h1, h2⟩ := truthD_ok (W := W) (σ := σ) (Q := fun c H' => H' = H1 → if c = true then Q v H' else tE G W g σ H' Q) hK S1 rv (P1.bind.imp fun r2 H2 c M2 e2 S2 P2 hh => by
      subst hh
      cases c with
      | true => exact P2.now S2 v (Rep.mono e2 _ _ rv)
      | false => exact ⟨eta, M2, r2, (E.mono e1).mono e2, S2, P2⟩)
    exact ⟨k, h1, h2 rfl⟩⟩
theorem ev_not (hK : X.K = G.K) {f : EvE} {a : Expr} {pos : Pos} (ha : PEv G X W f a) : PEv G X W (eNt f) (.UnaryOp .Not a pos) :=
  PE.weak (pe_notT ha) fun σ H Q ⟨eta, M, rho, E, S, P⟩ => ⟨eta, M, rho, E, S, P.bind.imp fun r1 H1 x M1 e1 S1 P1 v rv => by
    obtain ⟨k, h1, h2⟩ := truthD_ok (W := W) (σ := σ) (Q := fun c H' => H' = H1 → Q (.bl (!c)) H') hK S1 rv (P1.bind.imp fun r2 H2 c M2 e2 S2 P2 hh => by
      subst hh
      exact P2.now S2 _ (by simp [Rep]))
    exact ⟨k, h1, h2 rfl⟩⟩
/-! ### chains -/
def eChn (f g : D → D → Store → Out D) (a b c : EvE) : EvE := fun eta M => (a eta M).bind fun x M1 => (b eta M1).bind fun y M2 => (f x y M2).bind fun z M3 => match z with
  | .bl true => (c eta M3).bind fun w M4 => g y w M4
  | .bl false => .ok (.bl false) M3
  | _ => .bad
theorem chn_ok {f g : D → D → Store → Out D} {r r' : R2} {fa fb fc : EvE} (hs : OpS G f r) (hs' : OpS G g r') {σ : St} {H : Hp} {Q : VK} (h : tE G W (eChn f g fa fb fc) σ H Q) : tChain r r' (tE G W fa) (tE G W fb) (tE G W fc) σ H Q := by
  obtain ⟨eta, M, rho, E, S, P⟩ := h
  refine ⟨eta, M, rho, E, S, P.bind.imp fun r1 H1 x M1 e1 S1 P1 v rv => ⟨eta, M1, r1, E.mono e1, S1, P1.bind.imp fun r2 H2 y M2 e2 S2 P2 w rw' => ?_⟩⟩
  refine hs W σ r2 H2 M2 x y v w _ S2 (Rep.mono e2 _ _ rv) rw' (P2.bind.imp fun r3 H3 z M3 e3 S3 P3 u ru => ?_)
  cases z with
  | bl k =>
    have hu := rep_bl ru
    subst hu
    refine ⟨k, rfl, ?_⟩
    cases k with
    | true => exact ⟨eta, M3, r3, ((E.mono e1).mono e2).mono e3, S3, P3.bind.imp fun r4 H4 w4 M4 e4 S4 P4 v4 rv4 => hs' W σ r4 H4 M4 y w4 w v4 Q S4 (Rep.mono e4 _ _ (Rep.mono e3 _ _ rw')) rv4 P4⟩
    | false => exact P3.now S3 _ (by simp [Rep])
  | _ => exact P3.elim
theorem ev_chn {op op' : CmpOp} {f g : D → D → Store → Out D} {r r' : R2} {fa fb fc : EvE} {a b c : Expr} {pos : Pos} (ho : OpR X (compareOp op) r) (ho' : OpR X (compareOp op') r') (hs : OpS G f r) (hs' : OpS G g r') (ha : PEv G X W fa a) (hb : PEv G X W fb b) (hc : PEv G X W fc c)
    (hm : lastMarks [op, op'] [b, c] = false := by with_unfolding_all rfl) : PEv G X W (eChn f g fa fb fc) (.Compare a [op, op'] [b, c] pos) :=
  PE.weak (pe_chain ho ho' ha hb hc hm) fun σ H Q h => chn_ok hs hs' h
theorem tv_chn {op op' : CmpOp} {f g : D → D → Store → Out D} {r r' : R2} {fa fb fc : EvE} {a b c : Expr} {pos : Pos} (ho : OpR X (compareOp op) r) (ho' : OpR X (compareOp op') r') (hs : OpS G f r) (hs' : OpS G g r') (ha : PEv G X W fa a) (hb : PEv G X W fb b) (hc : PEv G X W fc c)
    (hm : lastMarks [op, op'] [b, c] = false := by with_unfolding_all rfl) : PTv G X W (tOf (eChn f g fa fb fc)) (.Compare a [op, op'] [b, c] pos) :=
  PT.weak (pt_chain ho ho' ha hb hc hm) fun σ H Q ⟨eta, M, rho, E, S, P⟩ => chn_ok hs hs' ⟨eta, M, rho, E, S, P.bind.imp fun r3 H3 z M3 e3 S3 P3 u ru => by
    cases z with
    | bl b => simp only [Rep] at ru; subst ru; exact ⟨b, rfl, P3.now S3⟩
    | _ => exact P3.elim⟩
/-! ### op= of ints -/
def dMulI (x y : D) (M : Store) : Out D := match x, y with
  | .int i, .int j => if i.natAbs.log2 + j.natAbs.log2 < 1000000 then .ok (.int (i * j)) M else .bad
  | _, _ => .bad
theorem iop_mulW : OpR X (inplaceOp .Mult) (rI CMulW fun i j => .int (i * j)) := opI fun _ _ _ _ _ _ _ hc q => PyProof.Rows.imul_int q hc.ok
theorem ds_mulI : OpS G dMulI (rI CMulW fun i j => .int (i * j)) := fun W σ rho H M x y v w Q S rx ry P => by
  cases x <;> cases y <;> try exact P.elim
  rename_i i j
  have h1 := rep_int rx
  have h2 := rep_int ry
  subst h1; subst h2
  simp only [dMulI] at P
  split at P
  · rename_i hc
    exact ⟨i, j, rfl, rfl, hc, good_int S P⟩
  · exact P.elim
def dAddI (x y : D) (M : Store) : Out D := match x, y with
  | .int i, .int j => .ok (.int (i + j)) M
  | _, _ => .bad
theorem ds_addI : OpS G dAddI (rI0 fun i j => .int (i + j)) := fun W σ rho H M x y v w Q S rx ry P => by
  cases x <;> cases y <;> try exact P.elim
  rename_i i j
  have h1 := rep_int rx
  have h2 := rep_int ry
  subst h1; subst h2
  exact ⟨i, j, rfl, rfl, good_int S P⟩
end
end Ev

/-! Ev, part N: list(range(..)). -/
namespace Ev
open PySem L2

def rgD (a b : Int) : List D := (List.range (b - a).toNat).map fun i => D.int (a + (i : Nat))
def rgOut (a b : Int) (M : Store) : Out D := if -(2 ^ 62) ≤ a ∧ a < 2 ^ 62 ∧ -(2 ^ 62) ≤ b ∧ b < 2 ^ 62 ∧ (b - a).toNat ≤ cap then .ok (.ref M.length) (M ++ [.lst (rgD a b)]) else .bad
def rgIn1 (x : D) (M : Store) : Out D := match x with
  | .int j => rgOut 0 j M
  | _ => .bad
def rgIn2 (x y : D) (M : Store) : Out D := match x, y with
  | .int i, .int j => rgOut i j M
  | _, _ => .bad
def eLrg1 (f : EvE) : EvE := fun eta M => (f eta M).bind rgIn1
def eLrg2 (f g : EvE) : EvE := fun eta M => (f eta M).bind fun x M1 => (g eta M1).bind fun y M2 => rgIn2 x y M2
section
variable {G : Gd} {X : Cx} {W : WX}
theorem reps_rg {K : PySem.W.Frag} {rho : List Addr} {H : Hp} (a : Int) : ∀ is : List Nat, Reps K rho H (is.map fun i => D.int (a + (i : Nat))) (is.map fun i => V.int (a + (i : Nat)))
  | [] => by simp [Reps]
  | i :: is => by
    simp only [List.map_cons, Reps]
    exact ⟨_, _, rfl, by simp [Rep], reps_rg a is⟩
theorem rgOut_ok {σ : St} {rho : List Addr} {H : Hp} {M : Store} {a b : Int} {Q : VK} (S : StR G.K G.T rho H M) (P : Post G W σ rho H (GoodD G.K Q) (rgOut a b M)) : RgOk a b ∧ ∀ q, H q = none → Q (.ref q) (upd H q (.lst (rgV a b))) := by
  unfold rgOut at P
  split at P
  · rename_i h
    exact ⟨⟨h.1, h.2.1, h.2.2.1, h.2.2.2.1, h.2.2.2.2⟩, new_lst S (reps_rg a _) P⟩
  · exact P.elim
theorem ev_lrg1 {f : EvE} {a : Expr} {p p2 pos pos2 : Pos} (hc : X.calm = true) (hg : Gl X "list") (hm : X.mg "list" = none) (hg2 : Gl X "range") (hm2 : X.mg "range" = none) (ha : PEv G X W f a)
    (na : starEach [a] X.env = (false, eval a X.env) :: starEach [] X.env := by rfl) (nb : starEach [Expr.Call (.Name "range" p2) [a] [] pos2] X.env = (false, eval (.Call (.Name "range" p2) [a] [] pos2) X.env) :: starEach [] X.env := by rfl) :
    PEv G X W (eLrg1 f) (.Call (.Name "list" p) [.Call (.Name "range" p2) [a] [] pos2] [] pos) :=
  PE.weak (pe_listRg hc hg hm (prg_1 hg2 hm2 ha na) nb) fun σ H Q ⟨eta, M, rho, E, S, P⟩ => ⟨eta, M, rho, E, S, P.bind.imp fun r1 H1 x M1 e1 S1 P1 v rv => by
    cases x with
    | int j =>
      have h1 := rep_int rv
      subst h1
      exact ⟨j, rfl, rgOut_ok S1 P1⟩
    | _ => exact P1.elim⟩
theorem ev_lrg2 {f g : EvE} {a b : Expr} {p p2 pos pos2 : Pos} (hc : X.calm = true) (hg : Gl X "list") (hm : X.mg "list" = none) (hg2 : Gl X "range") (hm2 : X.mg "range" = none) (ha : PEv G X W f a) (hb : PEv G X W g b)
    (na : starEach [a, b] X.env = (false, eval a X.env) :: starEach [b] X.env := by rfl) (na2 : starEach [b] X.env = (false, eval b X.env) :: starEach [] X.env := by rfl) (hp : (backTo pos2 (starEach [b] X.env)).any (·.1) = false := by rfl)
    (nb : starEach [Expr.Call (.Name "range" p2) [a, b] [] pos2] X.env = (false, eval (.Call (.Name "range" p2) [a, b] [] pos2) X.env) :: starEach [] X.env := by rfl) :
    PEv G X W (eLrg2 f g) (.Call (.Name "list" p) [.Call (.Name "range" p2) [a, b] [] pos2] [] pos) :=
  PE.weak (pe_listRg hc hg hm (prg_2 hg2 hm2 ha hb na na2 hp) nb) fun σ H Q ⟨eta, M, rho, E, S, P⟩ => tE2 E S P fun r2 H2 M2 x y v w _ S2 rx ry P2 => by
    cases x <;> cases y <;> try exact P2.elim
    rename_i i j
    have h1 := rep_int rx
    have h2 := rep_int ry
    subst h1; subst h2
    exact ⟨i, j, rfl, rfl, rgOut_ok S2 P2⟩
end
end Ev

/-! Ev, part P: rules for running bodies by hand: loops, comprehensions, calls. -/
namespace Ev
open PySem L2

/-! ### a turn's end -/
def StepR (I : Env → Store → Prop) (R : OutS → Prop) : OutS → Prop
  | .nx e M => I e M
  | .ct e M => I e M
  | .bk e M => R (.nx e M)
  | .rt d M => R (.rt d M)
  | .exc x fs e M => R (.exc x fs e M)
  | .bad => R .bad

theorem forLoop_rule {J : Iter} {t : Tgt} {b : EvS} {R : OutS → Prop} (I : Nat → Env → Store → Prop) (n : Nat) (hle : ∀ i eta M, I i eta M → i ≤ n)
    (step : ∀ i eta M, I i eta M → (J i M = some none ∧ R (.nx eta M)) ∨ ∃ d eta1, J i M = some (some d) ∧ asg M t d eta = some eta1 ∧ StepR (I (i + 1)) R (b eta1 M)) :
    ∀ (m i : Nat) (eta : Env) (M : Store), n < m + i → I i eta M → R (forLoop J t b m i eta M)
  | 0, i, eta, M, hm, h => by have := hle i eta M h; omega
  | m + 1, i, eta, M, hm, h => by
    unfold forLoop
    rcases step i eta M h with ⟨e, r⟩ | ⟨d, eta1, e, ea, r⟩
    · rw [e]; exact r
    · rw [e]
      simp only [ea]
      cases hb : b eta1 M with
      | nx e' M' => rw [hb] at r; exact forLoop_rule I n hle step m (i + 1) e' M' (by omega) r
      | ct e' M' => rw [hb] at r; exact forLoop_rule I n hle step m (i + 1) e' M' (by omega) r
      | bk e' M' => rw [hb] at r; exact r
      | rt d M' => rw [hb] at r; exact r
      | exc x fs e' M' => rw [hb] at r; exact r
      | bad => rw [hb] at r; exact r

/-- over a range -/
theorem for_rg {lo : Int} {n : Nat} {t : Tgt} {b : EvS} {R : OutS → Prop} {eta : Env} {M : Store} (I : Nat → Env → Store → Prop) (hn : n < FUEL) (h0 : I 0 eta M)
    (step : ∀ i eta M, i < n → I i eta M → ∃ eta1, asg M t (.int (lo + i)) eta = some eta1 ∧ StepR (I (i + 1)) R (b eta1 M)) (hend : ∀ eta M, I n eta M → R (.nx eta M)) : R (forLoop (itRg lo n) t b FUEL 0 eta M) :=
  forLoop_rule (fun i e N => i ≤ n ∧ I i e N) n (fun _ _ _ h => h.1) (fun i e N ⟨h1, h2⟩ => by
    by_cases hi : i < n
    · obtain ⟨eta1, h3, h4⟩ := step i e N hi h2
      refine .inr ⟨_, eta1, by simp [itRg, hi], h3, ?_⟩
      cases hb : b eta1 N <;> rw [hb] at h4 <;> simp only [StepR] at h4 ⊢
      · exact ⟨hi, h4⟩
      · exact h4
      · exact h4
      · exact ⟨hi, h4⟩
      · exact h4
      · exact h4
    · have : i = n := by omega
      subst this
      exact .inl ⟨by simp [itRg], hend e N h2⟩) FUEL 0 eta M (by omega) ⟨Nat.zero_le _, h0⟩
/-- over members that are known -/
theorem for_ds {J : Iter} (ds : List D) {t : Tgt} {b : EvS} {R : OutS → Prop} {eta : Env} {M : Store} (I : Nat → Env → Store → Prop) (hn : ds.length < FUEL) (hJ : ∀ i eta M, I i eta M → J i M = some ds[i]?) (h0 : I 0 eta M)
    (step : ∀ i d eta M, ds[i]? = some d → I i eta M → ∃ eta1, asg M t d eta = some eta1 ∧ StepR (I (i + 1)) R (b eta1 M)) (hend : ∀ eta M, I ds.length eta M → R (.nx eta M)) : R (forLoop J t b FUEL 0 eta M) :=
  forLoop_rule (fun i e N => i ≤ ds.length ∧ I i e N) ds.length (fun _ _ _ h => h.1) (fun i e N ⟨h1, h2⟩ => by
    have hj := hJ i e N h2
    by_cases hi : i < ds.length
    · obtain ⟨eta1, h3, h4⟩ := step i ds[i] e N (List.getElem?_eq_getElem hi) h2
      refine .inr ⟨ds[i], eta1, by rw [hj, List.getElem?_eq_getElem hi], h3, ?_⟩
      cases hb : b eta1 N <;> rw [hb] at h4 <;> simp only [StepR] at h4 ⊢
      · exact ⟨hi, h4⟩
      · exact h4
      · exact h4
      · exact ⟨hi, h4⟩
      · exact h4
      · exact h4
    · have : i = ds.length := by omega
      subst this
      exact .inl ⟨by rw [hj]; simp, hend e N h2⟩) FUEL 0 eta M (by omega) ⟨Nat.zero_le _, h0⟩

/-! ### while -/
theorem while_rule {c : EvT} {b : EvS} {R : OutS → Prop} (I : Nat → Env → Store → Prop)
    (step : ∀ i eta M, I i eta M → ∃ k M1, c eta M = .ok k M1 ∧ if k = true then (∃ j, j < i ∧ StepR (I j) R (b eta M1)) else R (.nx eta M1)) :
    ∀ (m i : Nat) (eta : Env) (M : Store), i < m → I i eta M → R (sWhile c b m eta M)
  | 0, i, eta, M, hm, h => by omega
  | m + 1, i, eta, M, hm, h => by
    obtain ⟨k, M1, hc, hk⟩ := step i eta M h
    unfold sWhile
    simp only [hc, OutS.bindE]
    cases k with
    | false => exact hk
    | true =>
      simp only [if_true] at hk ⊢
      obtain ⟨j, hj, r⟩ := hk
      cases hb : b eta M1 with
      | nx e' M' => rw [hb] at r; exact while_rule I step m j e' M' (by omega) r
      | ct e' M' => rw [hb] at r; exact while_rule I step m j e' M' (by omega) r
      | bk e' M' => rw [hb] at r; exact r
      | rt d M' => rw [hb] at r; exact r
      | exc x fs e' M' => rw [hb] at r; exact r
      | bad => rw [hb] at r; exact r

/-! ### the store -/
theorem app_at (P : Store) (a : MO) (N : Store) : (P ++ a :: N)[P.length]? = some a := by simp
theorem app_at' {P : Store} {n : Nat} (h : P.length = n) (a : MO) (N : Store) : (P ++ a :: N)[n]? = some a := by subst h; simp
theorem app_set' {P : Store} {n : Nat} (h : P.length = n) (a b : MO) (N : Store) : (P ++ a :: N).set n b = P ++ b :: N := by subst h; simp
theorem app_old {P : Store} {n : Nat} {o : MO} (h : P[n]? = some o) (N : Store) : (P ++ N)[n]? = some o := by
  rw [List.getElem?_append_left (List.getElem?_eq_some_iff.mp h).1]; exact h

/-! ### comprehensions: P: what was there, then the list, then what the turns leave behind -/
theorem lc_rule {J : Iter} {t : Tgt} {vs : List Nat} {c : EvT} {f : EvE} {eta : Env} {n : Nat} {R : Store → Prop} (len : Nat) (I : Nat → Store → List D → Store → Prop) (hn : ∀ i P acc N, I i P acc N → P.length = n ∧ acc.length < cap)
    (hend : ∀ P acc N, I len P acc N → J len (P ++ .lst acc :: N) = some none ∧ R (P ++ .lst acc :: N))
    (step : ∀ i P acc N, i < len → I i P acc N → ∃ d eta1, J i (P ++ .lst acc :: N) = some (some d) ∧ asg (P ++ .lst acc :: N) t d (wipeE eta vs) = some eta1 ∧
      ((c eta1 (P ++ .lst acc :: N) = .ok true (P ++ .lst acc :: N) ∧ ∃ y P' N', f eta1 (P ++ .lst acc :: N) = .ok y (P' ++ .lst acc :: N') ∧ P'.length = n ∧ I (i + 1) P' (acc ++ [y]) N') ∨
        (c eta1 (P ++ .lst acc :: N) = .ok false (P ++ .lst acc :: N) ∧ I (i + 1) P acc N))) :
    ∀ (m i : Nat) (P : Store) (acc : List D) (N : Store), len < m + i → i ≤ len → I i P acc N → ∃ M', lcLoop J t vs c f eta n m i (P ++ .lst acc :: N) = .ok (.ref n) M' ∧ R M'
  | 0, i, P, acc, N, hm, hi, h => by omega
  | m + 1, i, P, acc, N, hm, hi, h => by
    unfold lcLoop
    by_cases hl : i < len
    · obtain ⟨d, eta1, e1, e2, hc⟩ := step i P acc N hl h
      simp only [e1, e2]
      rcases hc with ⟨h1, y, P', N', h2, h3, h4⟩ | ⟨h1, h4⟩
      · simp only [h1, h2, noX, Out.bind, if_true]
        have hlt := (hn i P acc N h).2
        simp only [putAt, app_at' h3, if_pos hlt, app_set' h3]
        exact lc_rule len I hn hend step m (i + 1) P' (acc ++ [y]) N' (by omega) hl h4
      · simp only [h1, noX, Out.bind, Bool.false_eq_true, if_false]
        exact lc_rule len I hn hend step m (i + 1) P acc N (by omega) hl h4
    · have : i = len := by omega
      subst this
      obtain ⟨h1, h2⟩ := hend P acc N h
      simp only [h1]
      exact ⟨_, rfl, h2⟩
/-- the turns leave all as it was -/
theorem lc_pure {J : Iter} {t : Tgt} {vs : List Nat} {f : EvE} {eta : Env} {M : Store} (len : Nat) (d : Nat → D) (y : Nat → D) (hlen : len < cap) (hJ : ∀ i acc, i < len → J i (M ++ [.lst acc]) = some (some (d i))) (hE : ∀ acc, J len (M ++ [.lst acc]) = some none)
    (step : ∀ i acc, i < len → ∃ eta1, asg (M ++ [.lst acc]) t (d i) (wipeE eta vs) = some eta1 ∧ f eta1 (M ++ [.lst acc]) = .ok (y i) (M ++ [.lst acc])) :
    lcLoop J t vs tYesE f eta M.length FUEL 0 (M ++ [.lst []]) = .ok (.ref M.length) (M ++ [.lst ((List.range len).map y)]) := by
  have hf : cap < FUEL := by unfold FUEL cap; decide
  obtain ⟨M', h1, h2⟩ := lc_rule (J := J) (t := t) (vs := vs) (c := tYesE) (f := f) (eta := eta) (n := M.length) (R := fun M' => M' = M ++ [.lst ((List.range len).map y)]) len
    (fun i P acc N => i ≤ len ∧ P = M ∧ acc = (List.range i).map y ∧ N = []) (fun i P acc N ⟨h0, h1, h2, h3⟩ => by subst h1 h2; exact ⟨rfl, by simp; omega⟩)
    (fun P acc N ⟨_, h1, h2, h3⟩ => by subst h1 h2 h3; exact ⟨hE _, rfl⟩)
    (fun i P acc N hi ⟨_, h1, h2, h3⟩ => by
      subst h1 h2 h3
      obtain ⟨eta1, h4, h5⟩ := step i ((List.range i).map y) hi
      exact ⟨d i, eta1, hJ i _ hi, h4, .inl ⟨rfl, y i, P, [], h5, rfl, hi, rfl, by rw [List.range_succ]; simp, rfl⟩⟩) FUEL 0 M [] [] (by omega) (Nat.zero_le _) ⟨Nat.zero_le _, rfl, rfl, rfl⟩
  rw [h1, h2]
/-- with a condition: what is kept -/
theorem lc_filter {J : Iter} {t : Tgt} {vs : List Nat} {c : EvT} {f : EvE} {eta : Env} {M : Store} (len : Nat) (d : Nat → D) (q : Nat → Bool) (y : Nat → D) (hlen : len < cap) (hJ : ∀ i acc, i < len → J i (M ++ [.lst acc]) = some (some (d i))) (hE : ∀ acc, J len (M ++ [.lst acc]) = some none)
    (step : ∀ i acc, i < len → ∃ eta1, asg (M ++ [.lst acc]) t (d i) (wipeE eta vs) = some eta1 ∧ c eta1 (M ++ [.lst acc]) = .ok (q i) (M ++ [.lst acc]) ∧ (q i = true → f eta1 (M ++ [.lst acc]) = .ok (y i) (M ++ [.lst acc]))) :
    lcLoop J t vs c f eta M.length FUEL 0 (M ++ [.lst []]) = .ok (.ref M.length) (M ++ [.lst (((List.range len).filter q).map y)]) := by
  have hf : cap < FUEL := by unfold FUEL cap; decide
  obtain ⟨M', h1, h2⟩ := lc_rule (J := J) (t := t) (vs := vs) (c := c) (f := f) (eta := eta) (n := M.length) (R := fun M' => M' = M ++ [.lst (((List.range len).filter q).map y)]) len
    (fun i P acc N => i ≤ len ∧ P = M ∧ acc = ((List.range i).filter q).map y ∧ N = []) (fun i P acc N ⟨h0, h1, h2, h3⟩ => by
      subst h1 h2
      have := List.length_filter_le q (List.range i)
      simp at this
      exact ⟨rfl, by simp; omega⟩)
    (fun P acc N ⟨_, h1, h2, h3⟩ => by subst h1 h2 h3; exact ⟨hE _, rfl⟩)
    (fun i P acc N hi ⟨_, h1, h2, h3⟩ => by
      subst h1 h2 h3
      obtain ⟨eta1, h4, h5, h6⟩ := step i (((List.range i).filter q).map y) hi
      refine ⟨d i, eta1, hJ i _ hi, h4, ?_⟩
      cases hq : q i with
      | true => exact .inl ⟨by rw [h5, hq], y i, P, [], h6 hq, rfl, hi, rfl, by rw [List.range_succ]; simp [hq], rfl⟩
      | false => exact .inr ⟨by rw [h5, hq], hi, rfl, by rw [List.range_succ]; simp [hq], rfl⟩) FUEL 0 M [] [] (by omega) (Nat.zero_le _) ⟨Nat.zero_le _, rfl, rfl, rfl⟩
  rw [h1, h2]

/-! ### calls -/
theorem tab_at {P : List Fn} {k i : Nat} {F : Fn} {args : List D} {M : Store} (h : P[i]? = some F) (hl : args.length = F.np) : tabOf P (k + 1) i args M = finS M (F.body (tabOf P k) (args.map some ++ List.replicate (F.nn - F.np) none) M) := by
  show (match P[i]? with
    | some F => runFn F (tabOf P k) args M
    | none => .bad) = _
  rw [h]
  simp only [runFn, if_pos hl]
theorem keptOk_app (k : Nat) : ∀ (M N : Store), keptOk k M (M ++ N) = true
  | [], _ => rfl
  | m :: M, N => by simp only [keptOk, List.cons_append, MO.same_refl, Bool.true_or, Bool.true_and]; exact keptOk_app k M N
/-- nothing old was written; the answer is old -/
theorem gc_old {M N : Store} {d : D} (h : d.low M.length = true) : gc M d (M ++ N) = .ok d M := by
  unfold gc
  rw [if_pos (keptOk_app _ _ _), if_pos h, List.take_left]
theorem gc_old0 {M : Store} {d : D} (h : d.low M.length = true) : gc M d M = .ok d M := by
  have := gc_old (N := []) h
  rwa [List.append_nil] at this
/-- .. a fresh object -/
theorem gc_new {M N : Store} {n : Nat} {o : MO} (hn : M.length ≤ n) (h : (M ++ N)[n]? = some o) (hz : o.isFrz = false) (hl : o.low M.length = true) : gc M (.ref n) (M ++ N) = .ok (.ref M.length) (M ++ [o]) := by
  unfold gc
  rw [if_pos (keptOk_app _ _ _)]
  have hb : (D.ref n).low M.length = false := by simp [D.low]; omega
  rw [hb]
  simp only [Bool.false_eq_true, if_false]
  rw [h]
  cases o with
  | frz _ => cases hz
  | lst _ => simp only [hl, if_true, List.take_left]
  | dicK _ => simp only [hl, if_true, List.take_left]
  | dicT _ => simp only [hl, if_true, List.take_left]
  | ins _ _ => simp only [hl, if_true, List.take_left]
end Ev

/-! Ev, part Q: the laws' source of numbers: made, picked from. -/
namespace Ev
open PySem L2

theorem keptOk_of {k : Nat} : ∀ {M0 M : Store}, M.length = M0.length → (∀ (i : Nat) (m o : MO), M0[i]? = some m → M[i]? = some o → o = m ∨ o.low k = true) → keptOk k M0 M = true
  | [], _, _, _ => rfl
  | m :: r, [], h, _ => by simp at h
  | m :: r, o :: s, h, f => by
    simp only [keptOk, Bool.and_eq_true, Bool.or_eq_true]
    refine ⟨?_, keptOk_of (by simpa using h) fun i a b h1 h2 => f (i + 1) a b (by simpa using h1) (by simpa using h2)⟩
    rcases f 0 m o rfl rfl with e | e
    · subst e; exact .inl (MO.same_refl _)
    · exact .inr e

abbrev kC : Key := Sum.inr "cells"
abbrev kL : Key := Sum.inr "left"
abbrev kM : Key := Sum.inr "mixed"
abbrev kT : Key := Sum.inr "turn"
theorem n_cl : ¬ kC = kL := by decide +kernel
theorem n_cm : ¬ kC = kM := by decide +kernel
theorem n_ct : ¬ kC = kT := by decide +kernel
theorem n_lm : ¬ kL = kM := by decide +kernel
theorem n_lt : ¬ kL = kT := by decide +kernel
theorem n_mt : ¬ kM = kT := by decide +kernel
theorem n_lc : ¬ kL = kC := by decide +kernel
theorem n_mc : ¬ kM = kC := by decide +kernel
theorem n_tc : ¬ kT = kC := by decide +kernel
theorem n_ml : ¬ kM = kL := by decide +kernel
theorem n_tl : ¬ kT = kL := by decide +kernel
theorem n_tm : ¬ kT = kM := by decide +kernel
theorem m_cl : ¬ (Str.ofString "cells" = Str.ofString "left") := by decide +kernel
theorem m_cm : ¬ (Str.ofString "cells" = Str.ofString "mixed") := by decide +kernel
theorem m_ct : ¬ (Str.ofString "cells" = Str.ofString "turn") := by decide +kernel
theorem m_lm : ¬ (Str.ofString "left" = Str.ofString "mixed") := by decide +kernel
theorem m_lt : ¬ (Str.ofString "left" = Str.ofString "turn") := by decide +kernel
theorem m_mt : ¬ (Str.ofString "mixed" = Str.ofString "turn") := by decide +kernel
theorem m_ml : ¬ (Str.ofString "mixed" = Str.ofString "left") := by decide +kernel
theorem m_tl : ¬ (Str.ofString "turn" = Str.ofString "left") := by decide +kernel
theorem m_tm : ¬ (Str.ofString "turn" = Str.ofString "mixed") := by decide +kernel
def srcO (c : Nat) (l m t : Int) : MO := .dicK [(kC, .ref c), (kL, .int l), (kM, .int m), (kT, .int t)]
section
variable {M : Store} {s c : Nat} {l m t : Int}
theorem src_c (h : M[s]? = some (srcO c l m t)) : dIx (.ref s) (.str "cells") M = .ok (.ref c) M := by
  simp only [dIx, dictAt, h, srcO, keyK, findK, if_true]
theorem src_l (h : M[s]? = some (srcO c l m t)) : dIx (.ref s) (.str "left") M = .ok (.int l) M := by
  simp only [dIx, dictAt, h, srcO, keyK, findK, if_true, if_neg n_cl]
theorem src_m (h : M[s]? = some (srcO c l m t)) : dIx (.ref s) (.str "mixed") M = .ok (.int m) M := by
  simp only [dIx, dictAt, h, srcO, keyK, findK, if_true, if_neg n_cm, if_neg n_lm]
theorem src_t (h : M[s]? = some (srcO c l m t)) : dIx (.ref s) (.str "turn") M = .ok (.int t) M := by
  simp only [dIx, dictAt, h, srcO, keyK, findK, if_true, if_neg n_ct, if_neg n_lt, if_neg n_mt]
theorem src_sl {x : Int} (h : M[s]? = some (srcO c l m t)) : setD (.ref s) (.str "left") (.int x) M = .ok () (M.set s (srcO c x m t)) := by
  simp only [setD, h, srcO, keyK]
  rw [if_pos (by simp [cap])]
  simp [putD, m_cl, m_ml, m_tl]
theorem src_sm {x : Int} (h : M[s]? = some (srcO c l m t)) : setD (.ref s) (.str "mixed") (.int x) M = .ok () (M.set s (srcO c l x t)) := by
  simp only [setD, h, srcO, keyK]
  rw [if_pos (by simp [cap])]
  simp [putD, m_cm, m_lm, m_tm]
theorem src_st {x : Int} (h : M[s]? = some (srcO c l m t)) : setD (.ref s) (.str "turn") (.int x) M = .ok () (M.set s (srcO c l m x)) := by
  simp only [setD, h, srcO, keyK]
  rw [if_pos (by simp [cap])]
  simp [putD, m_ct, m_lt, m_mt]
end
/-- the source stands at s, its cells at c -/
structure Src (M : Store) (s c : Nat) : Prop where
  ne : s ≠ c
  at_ : ∃ (cs : List Int) (l m t : Int), M[s]? = some (srcO c l m t) ∧ M[c]? = some (.lst (cs.map D.int)) ∧ cs.length ≤ 63
theorem Src.lt {M : Store} {s c : Nat} (h : Src M s c) : s < M.length ∧ c < M.length := by
  obtain ⟨cs, l, m, t, h1, h2, _⟩ := h.at_
  exact ⟨(List.getElem?_eq_some_iff.mp h1).1, (List.getElem?_eq_some_iff.mp h2).1⟩
theorem Src.app {M : Store} {s c : Nat} (h : Src M s c) (N : Store) : Src (M ++ N) s c := by
  obtain ⟨cs, l, m, t, h1, h2, h3⟩ := h.at_
  exact ⟨h.ne, cs, l, m, t, app_old h1 N, app_old h2 N, h3⟩
/-- all but the source is as it was -/
structure But (s c : Nat) (M M' : Store) : Prop where
  len : M'.length = M.length
  at_ : ∀ i, i ≠ s → i ≠ c → M'[i]? = M[i]?
theorem But.refl {s c : Nat} (M : Store) : But s c M M := ⟨rfl, fun _ _ _ => rfl⟩
theorem But.trans {s c : Nat} {M1 M2 M3 : Store} (a : But s c M1 M2) (b : But s c M2 M3) : But s c M1 M3 := ⟨b.len.trans a.len, fun i h1 h2 => (b.at_ i h1 h2).trans (a.at_ i h1 h2)⟩
theorem But.setS {s c : Nat} (M : Store) (o : MO) : But s c M (M.set s o) := ⟨by simp, fun i h1 _ => by rw [List.getElem?_set_ne (Ne.symm h1)]⟩
theorem But.setC {s c : Nat} (M : Store) (o : MO) : But s c M (M.set c o) := ⟨by simp, fun i _ h1 => by rw [List.getElem?_set_ne (Ne.symm h1)]⟩
/-- what was picked: the store behind is split as the store before -/
theorem But.split {s c : Nat} {P N M' : Store} (b : But s c (P ++ N) M') (hs : s < P.length) (hc : c < P.length) : ∃ P', M' = P' ++ N ∧ But s c P P' ∧ P'.length = P.length := by
  have hl := b.len
  rw [List.length_append] at hl
  have e : M'.drop P.length = N := by
    apply List.ext_getElem?
    intro i
    rw [List.getElem?_drop, b.at_ _ (by omega) (by omega), List.getElem?_append_right (by omega)]
    congr 1; omega
  refine ⟨M'.take P.length, ?_, ⟨by simp; omega, fun i h1 h2 => ?_⟩, by simp; omega⟩
  · rw [← e]; simp
  · by_cases hi : i < P.length
    · rw [List.getElem?_take_of_lt hi, b.at_ i h1 h2, List.getElem?_append_left hi]
    · rw [List.getElem?_eq_none (by simp; omega), List.getElem?_eq_none (by omega)]
theorem Src.of_app {P N : Store} {s c : Nat} (h : Src (P ++ N) s c) (hs : s < P.length) (hc : c < P.length) : Src P s c := by
  obtain ⟨cs, l, m, t, h1, h2, h3⟩ := h.at_
  rw [List.getElem?_append_left hs] at h1
  rw [List.getElem?_append_left hc] at h2
  exact ⟨h.ne, cs, l, m, t, h1, h2, h3⟩

/-! ### picking -/
def pickQ : EvT := tAn (tOf (eBin dGt (eVar 1) (eC (.int 1)))) (tAn (tOf (eBin dLt (eBin dIx (eVar 0) (eC (.str "left"))) (eC (.int 2)))) (tOf (eBin dGt (eB bLen (lCons (eBin dIx (eVar 0) (eC (.str "cells"))) (lNil))) (eC (.int 0)))))
def pickB : EvS := sSet (eVar 0) (eC (.str "left")) (eMl0 mPop (eBin dIx (eVar 0) (eC (.str "cells"))))
def pickR : EvS :=
  sSeq (sAsg (.nm 2) (eBin dIx (eVar 0) (eC (.str "left")))) (sSeq (sIf (tOrr (tOf (eBin dLt (eVar 1) (eC (.int 2)))) (tOf (eBin dGt (eVar 2) (eC (.int 1))))) (sSeq (sSet (eVar 0) (eC (.str "left")) (eBin dFdiv (eVar 2) (eB bMax (lCons (eC (.int 1)) (lCons (eVar 1) (lNil)))))) (sRet (eBin dMod (eB bInt (lCons (eVar 2) (lNil))) (eB bMax (lCons (eC (.int 1)) (lCons (eVar 1) (lNil))))))) (sSkip)) (sSeq (sSet (eVar 0) (eC (.str "turn")) (eBin dAdd (eBin dIx (eVar 0) (eC (.str "turn"))) (eC (.int 1)))) (sSeq (sAsg (.nm 3) (eBin dMod (eB bInt (lCons (eBin dAdd (eBin dIx (eVar 0) (eC (.str "mixed"))) (eBin dMulA (eBin dIx (eVar 0) (eC (.str "turn"))) (eC (.int 104729)))) (lNil))) (eC (.int 998244353)))) (sSeq (sAsg (.nm 3) (eBin dMod (eB bInt (lCons (eBin dAdd (eBin dMulA (eVar 3) (eVar 3)) (eBin dMulA (eBin dIx (eVar 0) (eC (.str "turn"))) (eC (.int 17)))) (lNil))) (eC (.int 2147483647)))) (sSeq (sSet (eVar 0) (eC (.str "mixed")) (eVar 3)) (sRet (eBin dMod (eB bInt (lCons (eBin dFdiv (eVar 3) (eC (.int 16))) (lNil))) (eVar 1))))))))
def cPick : EvS := sSeq (sWhile pickQ pickB FUEL) pickR

def PickR (M0 : Store) (s c : Nat) (many : Int) (o : OutS) : Prop := ∃ r M', o = .rt (.int r) M' ∧ 0 ≤ r ∧ r < many ∧ Src M' s c ∧ But s c M0 M'

theorem mul1 {i j : Int} (h : -(2 ^ 64) < j ∧ j < 2 ^ 64) : mulOk i j = true := by
  unfold mulOk
  simp only [Bool.or_eq_true, decide_eq_true_eq]
  exact .inl (.inr h)

theorem pickR_ok {M0 M : Store} {s c : Nat} {many : Int} (h : Src M s c) (b : But s c M0 M) (h1 : 1 ≤ many) (h2 : many < 2 ^ 60) : PickR M0 s c many (pickR [some (.ref s), some (.int many), none, none] M) := by
  obtain ⟨cs, l, m, t, e1, e2, e3⟩ := h.at_
  have hlt := h.lt
  have hmx : (if many > 1 then many else 1) = many := by split <;> omega
  have hlg : many.natAbs.log2 < 9000 := by
    have : many.natAbs.log2 ≤ many.natAbs := Nat.log2_le_self _
    rcases Nat.lt_or_ge many.natAbs.log2 9000 with q | q
    · exact q
    · exfalso
      have q1 : 2 ^ 9000 ≤ many.natAbs := (Nat.le_log2 (by omega)).mp q
      have q2 : (2 : Nat) ^ 60 ≤ 2 ^ 9000 := Nat.pow_le_pow_right (by decide) (by decide)
      have q3 : many.natAbs < 2 ^ 60 := by
        have : (2 : Int) ^ 60 = ((2 ^ 60 : Nat) : Int) := by norm_cast
        omega
      omega
  unfold pickR
  by_cases hc : many < 2 ∨ 1 < l
  · refine ⟨l % many, M.set s (srcO c (l / many) m t), ?_, Int.emod_nonneg _ (by omega), Int.emod_lt_of_pos _ (by omega), ⟨h.ne, cs, l / many, m, t, by simp [hlt.1], by rw [List.getElem?_set_ne h.ne]; exact e2, e3⟩, b.trans (But.setS _ _)⟩
    simp only [sSeq, sAsg, sPar, setAll, sRet, sRetN, sIf, sExpr, sAug, sSet, sSkip, sFor, sBreak, sCont, OutS.bindE, asg, asgs, partsD, StepR, Out.bind, eVar, eC, eBin, eUn, eIf, eAn, eOrr, eNt, eTup, eLst, lCons, lNil, eB, eLc, eCall, eMl, eMl0, eCut, oNone, oSome, dCut, eGet1, eGet2, eDict, pCons, pNil, eDicK, eDicT, eLrg1, eLrg2, rgIn1, rgIn2, tOf, asB, tTru, truthD, tNt, tAn, tOrr, itE, itD, itRange1, itRange2, itEnum, dAdd, dSub, dMulA, dMul, dFdiv, dMod, dNeg, dCmp, dLt, dLe, dGt, dGe, dIs, dMulI, dAddI, bAbs, bInt, bLen, bMax, bMin, bSum, bTuple, bList, isLst, List.getElem?_cons_zero, List.getElem?_cons_succ, List.getElem?_nil, List.set_cons_zero, List.set_cons_succ, if_true, if_false, Bool.false_eq_true, decide_eq_true_eq, List.map_cons, List.map_nil, List.replicate, List.length_cons, List.length_nil, List.cons_append, List.nil_append, wipeE, src_l e1]
    by_cases q : many < 2
    · simp only [sSeq, sAsg, sPar, setAll, sRet, sRetN, sIf, sExpr, sAug, sSet, sSkip, sFor, sBreak, sCont, OutS.bindE, asg, asgs, partsD, StepR, Out.bind, eVar, eC, eBin, eUn, eIf, eAn, eOrr, eNt, eTup, eLst, lCons, lNil, eB, eLc, eCall, eMl, eMl0, eCut, oNone, oSome, dCut, eGet1, eGet2, eDict, pCons, pNil, eDicK, eDicT, eLrg1, eLrg2, rgIn1, rgIn2, tOf, asB, tTru, truthD, tNt, tAn, tOrr, itE, itD, itRange1, itRange2, itEnum, dAdd, dSub, dMulA, dMul, dFdiv, dMod, dNeg, dCmp, dLt, dLe, dGt, dGe, dIs, dMulI, dAddI, bAbs, bInt, bLen, bMax, bMin, bSum, bTuple, bList, isLst, List.getElem?_cons_zero, List.getElem?_cons_succ, List.getElem?_nil, List.set_cons_zero, List.set_cons_succ, if_true, if_false, Bool.false_eq_true, decide_eq_true_eq, List.map_cons, List.map_nil, List.replicate, List.length_cons, List.length_nil, List.cons_append, List.nil_append, wipeE, q, decide_true, src_sl e1, hmx, hlg, show (0 : Int) < many from by omega, and_self]
    · have q' : 1 < l := by omega
      simp only [sSeq, sAsg, sPar, setAll, sRet, sRetN, sIf, sExpr, sAug, sSet, sSkip, sFor, sBreak, sCont, OutS.bindE, asg, asgs, partsD, StepR, Out.bind, eVar, eC, eBin, eUn, eIf, eAn, eOrr, eNt, eTup, eLst, lCons, lNil, eB, eLc, eCall, eMl, eMl0, eCut, oNone, oSome, dCut, eGet1, eGet2, eDict, pCons, pNil, eDicK, eDicT, eLrg1, eLrg2, rgIn1, rgIn2, tOf, asB, tTru, truthD, tNt, tAn, tOrr, itE, itD, itRange1, itRange2, itEnum, dAdd, dSub, dMulA, dMul, dFdiv, dMod, dNeg, dCmp, dLt, dLe, dGt, dGe, dIs, dMulI, dAddI, bAbs, bInt, bLen, bMax, bMin, bSum, bTuple, bList, isLst, List.getElem?_cons_zero, List.getElem?_cons_succ, List.getElem?_nil, List.set_cons_zero, List.set_cons_succ, if_true, if_false, Bool.false_eq_true, decide_eq_true_eq, List.map_cons, List.map_nil, List.replicate, List.length_cons, List.length_nil, List.cons_append, List.nil_append, wipeE, q, q', decide_true, decide_false, src_sl e1, hmx, hlg, show (0 : Int) < many from by omega, and_self]
  · have q1 : ¬ many < 2 := fun z => hc (.inl z)
    have q2 : ¬ 1 < l := fun z => hc (.inr z)
    have f1 : (M.set s (srcO c l m (t + 1)))[s]? = some (srcO c l m (t + 1)) := by simp [hlt.1]
    have g1 : ∀ x : Int, 0 ≤ x % 998244353 ∧ x % 998244353 < 998244353 := fun x => ⟨Int.emod_nonneg _ (by decide), Int.emod_lt_of_pos _ (by decide)⟩
    refine ⟨_, _, by
      simp only [sSeq, sAsg, sPar, setAll, sRet, sRetN, sIf, sExpr, sAug, sSet, sSkip, sFor, sBreak, sCont, OutS.bindE, asg, asgs, partsD, StepR, Out.bind, eVar, eC, eBin, eUn, eIf, eAn, eOrr, eNt, eTup, eLst, lCons, lNil, eB, eLc, eCall, eMl, eMl0, eCut, oNone, oSome, dCut, eGet1, eGet2, eDict, pCons, pNil, eDicK, eDicT, eLrg1, eLrg2, rgIn1, rgIn2, tOf, asB, tTru, truthD, tNt, tAn, tOrr, itE, itD, itRange1, itRange2, itEnum, dAdd, dSub, dMulA, dMul, dFdiv, dMod, dNeg, dCmp, dLt, dLe, dGt, dGe, dIs, dMulI, dAddI, bAbs, bInt, bLen, bMax, bMin, bSum, bTuple, bList, isLst, List.getElem?_cons_zero, List.getElem?_cons_succ, List.getElem?_nil, List.set_cons_zero, List.set_cons_succ, if_true, if_false, Bool.false_eq_true, decide_eq_true_eq, List.map_cons, List.map_nil, List.replicate, List.length_cons, List.length_nil, List.cons_append, List.nil_append, wipeE, src_l e1, q1, q2, decide_false, src_st e1, src_t e1, src_t f1, src_m f1, mul1 (i := t + 1) (j := 104729) (by decide), mul1 (i := t + 1) (j := 17) (by decide), show (0 : Int) < 998244353 from by decide, show (0 : Int) < 2147483647 from by decide,
        mul1 (i := (m + (t + 1) * 104729) % 998244353) (j := (m + (t + 1) * 104729) % 998244353) (by have := g1 (m + (t + 1) * 104729); omega), src_sm f1, show ((0 : Int) < 16 ∧ (16 : Int).natAbs.log2 < 9000) from by decide, show (0 : Int) < many from by omega, and_self]
      rfl, Int.emod_nonneg _ (by omega), Int.emod_lt_of_pos _ (by omega), ⟨h.ne, cs, l, _, t + 1, by simp [hlt.1]; rfl, by rw [List.getElem?_set_ne h.ne, List.getElem?_set_ne h.ne]; exact e2, e3⟩, (b.trans (But.setS _ _)).trans (But.setS _ _)⟩
theorem cPick_ok {M : Store} {s c : Nat} {many : Int} (h : Src M s c) (h1 : 1 ≤ many) (h2 : many < 2 ^ 60) : PickR M s c many (cPick [some (.ref s), some (.int many), none, none] M) := by
  obtain ⟨cs0, _, _, _, hs, hc, e3⟩ := h.at_
  show PickR M s c many (match sWhile pickQ pickB FUEL [some (.ref s), some (.int many), none, none] M with
    | .nx eta' M' => pickR eta' M'
    | o => o)
  refine while_rule (c := pickQ) (b := pickB) (R := fun o => PickR M s c many (match o with
    | .nx eta' M' => pickR eta' M'
    | o => o)) (fun i eta M' => i ≤ 63 ∧ eta = [some (.ref s), some (.int many), none, none] ∧ But s c M M' ∧ s ≠ c ∧ ∃ (cs : List Int) (l m t : Int), M'[s]? = some (srcO c l m t) ∧ M'[c]? = some (.lst (cs.map D.int)) ∧ cs.length = i) (fun i eta M' ⟨hi, he, b, ne, cs, l, m, t, e1, e2, e3⟩ => ?_) FUEL (cs0 : List Int).length _ M (by unfold FUEL; omega) ⟨e3, rfl, But.refl _, h.ne, cs0, _, _, _, hs, hc, rfl⟩
  subst he
  have hR : PickR M s c many (pickR [some (.ref s), some (.int many), none, none] M') := pickR_ok ⟨ne, cs, l, m, t, e1, e2, by omega⟩ b h1 h2
  by_cases q1 : 1 < many
  · by_cases q2 : l < 2
    · rcases List.eq_nil_or_concat cs with q3 | ⟨ys, y, q3⟩
      · subst q3
        refine ⟨false, M', ?_, hR⟩
        unfold pickQ
        simp only [sSeq, sAsg, sPar, setAll, sRet, sRetN, sIf, sExpr, sAug, sSet, sSkip, sFor, sBreak, sCont, OutS.bindE, asg, asgs, partsD, StepR, Out.bind, eVar, eC, eBin, eUn, eIf, eAn, eOrr, eNt, eTup, eLst, lCons, lNil, eB, eLc, eCall, eMl, eMl0, eCut, oNone, oSome, dCut, eGet1, eGet2, eDict, pCons, pNil, eDicK, eDicT, eLrg1, eLrg2, rgIn1, rgIn2, tOf, asB, tTru, truthD, tNt, tAn, tOrr, itE, itD, itRange1, itRange2, itEnum, dAdd, dSub, dMulA, dMul, dFdiv, dMod, dNeg, dCmp, dLt, dLe, dGt, dGe, dIs, dMulI, dAddI, bAbs, bInt, bLen, bMax, bMin, bSum, bTuple, bList, isLst, List.getElem?_cons_zero, List.getElem?_cons_succ, List.getElem?_nil, List.set_cons_zero, List.set_cons_succ, if_true, if_false, Bool.false_eq_true, decide_eq_true_eq, List.map_cons, List.map_nil, List.replicate, List.length_cons, List.length_nil, List.cons_append, List.nil_append, wipeE, q1, q2, decide_true, src_l e1, src_c e1, e2, Int.natCast_zero, show ¬ ((0 : Int) < 0) from by decide, decide_false]
      · subst q3
        refine ⟨true, M', ?_, ?_⟩
        · unfold pickQ
          simp only [sSeq, sAsg, sPar, setAll, sRet, sRetN, sIf, sExpr, sAug, sSet, sSkip, sFor, sBreak, sCont, OutS.bindE, asg, asgs, partsD, StepR, Out.bind, eVar, eC, eBin, eUn, eIf, eAn, eOrr, eNt, eTup, eLst, lCons, lNil, eB, eLc, eCall, eMl, eMl0, eCut, oNone, oSome, dCut, eGet1, eGet2, eDict, pCons, pNil, eDicK, eDicT, eLrg1, eLrg2, rgIn1, rgIn2, tOf, asB, tTru, truthD, tNt, tAn, tOrr, itE, itD, itRange1, itRange2, itEnum, dAdd, dSub, dMulA, dMul, dFdiv, dMod, dNeg, dCmp, dLt, dLe, dGt, dGe, dIs, dMulI, dAddI, bAbs, bInt, bLen, bMax, bMin, bSum, bTuple, bList, isLst, List.getElem?_cons_zero, List.getElem?_cons_succ, List.getElem?_nil, List.set_cons_zero, List.set_cons_succ, if_true, if_false, Bool.false_eq_true, decide_eq_true_eq, List.map_cons, List.map_nil, List.replicate, List.length_cons, List.length_nil, List.cons_append, List.nil_append, wipeE, q1, q2, decide_true, src_l e1, src_c e1, e2, List.length_map, List.length_append, show ((0 : Int) < ((ys.concat y).length : Nat)) from by simp]
        · simp only [if_true]
          have hlt : s < M'.length ∧ c < M'.length := ⟨(List.getElem?_eq_some_iff.mp e1).1, (List.getElem?_eq_some_iff.mp e2).1⟩
          have hp : mPop (.ref c) [] M' = .ok (.int y) (M'.set c (.lst (ys.map D.int))) := by
            simp only [mPop, e2]
            simp
          have f1 : (M'.set c (.lst (ys.map D.int)))[s]? = some (srcO c l m t) := by rw [List.getElem?_set_ne (Ne.symm ne)]; exact e1
          have hb : pickB [some (.ref s), some (.int many), none, none] M' = .nx [some (.ref s), some (.int many), none, none] ((M'.set c (.lst (ys.map D.int))).set s (srcO c y m t)) := by
            unfold pickB
            simp only [sSeq, sAsg, sPar, setAll, sRet, sRetN, sIf, sExpr, sAug, sSet, sSkip, sFor, sBreak, sCont, OutS.bindE, asg, asgs, partsD, StepR, Out.bind, eVar, eC, eBin, eUn, eIf, eAn, eOrr, eNt, eTup, eLst, lCons, lNil, eB, eLc, eCall, eMl, eMl0, eCut, oNone, oSome, dCut, eGet1, eGet2, eDict, pCons, pNil, eDicK, eDicT, eLrg1, eLrg2, rgIn1, rgIn2, tOf, asB, tTru, truthD, tNt, tAn, tOrr, itE, itD, itRange1, itRange2, itEnum, dAdd, dSub, dMulA, dMul, dFdiv, dMod, dNeg, dCmp, dLt, dLe, dGt, dGe, dIs, dMulI, dAddI, bAbs, bInt, bLen, bMax, bMin, bSum, bTuple, bList, isLst, List.getElem?_cons_zero, List.getElem?_cons_succ, List.getElem?_nil, List.set_cons_zero, List.set_cons_succ, if_true, if_false, Bool.false_eq_true, decide_eq_true_eq, List.map_cons, List.map_nil, List.replicate, List.length_cons, List.length_nil, List.cons_append, List.nil_append, wipeE, src_c e1, e2, hp, src_sl f1]
          rw [hb]
          refine ⟨ys.length, by rw [← e3]; simp, by rw [List.length_concat] at e3; omega, rfl, (b.trans (But.setC _ _)).trans (But.setS _ _), ne, ys, y, m, t, by simp [hlt.1], by rw [List.getElem?_set_ne ne]; simp [hlt.2], rfl⟩
    · refine ⟨false, M', ?_, hR⟩
      unfold pickQ
      simp only [sSeq, sAsg, sPar, setAll, sRet, sRetN, sIf, sExpr, sAug, sSet, sSkip, sFor, sBreak, sCont, OutS.bindE, asg, asgs, partsD, StepR, Out.bind, eVar, eC, eBin, eUn, eIf, eAn, eOrr, eNt, eTup, eLst, lCons, lNil, eB, eLc, eCall, eMl, eMl0, eCut, oNone, oSome, dCut, eGet1, eGet2, eDict, pCons, pNil, eDicK, eDicT, eLrg1, eLrg2, rgIn1, rgIn2, tOf, asB, tTru, truthD, tNt, tAn, tOrr, itE, itD, itRange1, itRange2, itEnum, dAdd, dSub, dMulA, dMul, dFdiv, dMod, dNeg, dCmp, dLt, dLe, dGt, dGe, dIs, dMulI, dAddI, bAbs, bInt, bLen, bMax, bMin, bSum, bTuple, bList, isLst, List.getElem?_cons_zero, List.getElem?_cons_succ, List.getElem?_nil, List.set_cons_zero, List.set_cons_succ, if_true, if_false, Bool.false_eq_true, decide_eq_true_eq, List.map_cons, List.map_nil, List.replicate, List.length_cons, List.length_nil, List.cons_append, List.nil_append, wipeE, q1, q2, decide_true, src_l e1, decide_false]
  · refine ⟨false, M', ?_, hR⟩
    unfold pickQ
    simp only [sSeq, sAsg, sPar, setAll, sRet, sRetN, sIf, sExpr, sAug, sSet, sSkip, sFor, sBreak, sCont, OutS.bindE, asg, asgs, partsD, StepR, Out.bind, eVar, eC, eBin, eUn, eIf, eAn, eOrr, eNt, eTup, eLst, lCons, lNil, eB, eLc, eCall, eMl, eMl0, eCut, oNone, oSome, dCut, eGet1, eGet2, eDict, pCons, pNil, eDicK, eDicT, eLrg1, eLrg2, rgIn1, rgIn2, tOf, asB, tTru, truthD, tNt, tAn, tOrr, itE, itD, itRange1, itRange2, itEnum, dAdd, dSub, dMulA, dMul, dFdiv, dMod, dNeg, dCmp, dLt, dLe, dGt, dGe, dIs, dMulI, dAddI, bAbs, bInt, bLen, bMax, bMin, bSum, bTuple, bList, isLst, List.getElem?_cons_zero, List.getElem?_cons_succ, List.getElem?_nil, List.set_cons_zero, List.set_cons_succ, if_true, if_false, Bool.false_eq_true, decide_eq_true_eq, List.map_cons, List.map_nil, List.replicate, List.length_cons, List.length_nil, List.cons_append, List.nil_append, wipeE, q1, decide_false]
/-- the def, at any level: F is its entry -/
theorem pick_ok {P : List Fn} {k i : Nat} {F : Fn} {M : Store} {s c : Nat} {many : Int} (hF : P[i]? = some F) (hn : F.nn = 4) (hp : F.np = 2) (hb : F.body = fun _ => cPick) (h : Src M s c) (h1 : 1 ≤ many) (h2 : many < 2 ^ 60) :
    ∃ r M', tabOf P (k + 1) i [.ref s, .int many] M = .ok (.int r) M' ∧ 0 ≤ r ∧ r < many ∧ Src M' s c ∧ But s c M M' := by
  obtain ⟨r, M', e, g1, g2, g3, g4⟩ := cPick_ok h h1 h2
  refine ⟨r, M', ?_, g1, g2, g3, g4⟩
  rw [tab_at hF (by rw [hp]; rfl), hb, hn, hp]
  show finS M (cPick [some (.ref s), some (.int many), none, none] M) = _
  rw [e]
  have hk : keptOk M.length M M' = true := keptOk_of g4.len fun j m o e1 e2 => by
    obtain ⟨cs, l, mm, t, a1, a2, _⟩ := g3.at_
    have hlt := g3.lt
    rw [g4.len] at hlt
    by_cases hj : j = s
    · subst hj
      rw [a1] at e2; cases e2
      exact .inr (by simp [srcO, MO.low, lowL, D.low, hlt.2])
    · by_cases hj2 : j = c
      · subst hj2
        rw [a2] at e2; cases e2
        refine .inr ?_
        simp only [MO.low]
        have key : ∀ zs : List Int, lowL M.length (zs.map D.int) = true := fun zs => by
         induction zs with
         | nil => rfl
         | cons x xs ih => simp only [List.map_cons, lowL, D.low, Bool.true_and]; exact ih
        exact key cs
      · rw [g4.at_ j hj hj2, e1] at e2
        exact .inl (Option.some.inj e2).symm
  show gc M (.int r) M' = _
  unfold gc
  rw [if_pos hk, if_pos (show (D.int r).low M.length = true from rfl), ← g4.len, List.take_length]
end Ev

/-! Ev, part R: the source is made of the script. -/
namespace Ev
open PySem L2

def srcB : EvS := sAsg (.nm 1) (eBin dMod (eB bInt (lCons (eBin dAdd (eBin dAdd (eBin dMulA (eVar 1) (eC (.int 69069))) (eBin dMulA (eVar 2) (eC (.int 31)))) (eC (.int 5))) (lNil))) (eC (.int 2147483629)))
def srcE : EvE := eB bAbs (lCons (eVar 2) (lNil))
def srcD : EvE := eDict (pCons (eC (.str "cells")) (eUn dRev (eLc (itE (eVar 0)) (.nm 2) [2] (tYesE) srcE)) (pCons (eC (.str "left")) (eC (.int 1)) (pCons (eC (.str "mixed")) (eVar 1) (pCons (eC (.str "turn")) (eC (.int 0)) (pNil)))))
def cSrc : EvS :=
  sSeq (sAsg (.nm 1) (eC (.int 11))) (sSeq (sFor (itE (eVar 0)) (.nm 2) srcB) (sRet srcD))

theorem merge_src (c x : D) (y z : D) : mergeD [] [(Sum.inr "cells", c), (Sum.inr "left", x), (Sum.inr "mixed", y), (Sum.inr "turn", z)] = [(kC, c), (kL, x), (kM, y), (kT, z)] := by
  simp [mergeD, putD, m_cl, m_cm, m_ct, m_lm, m_lt, m_mt]
def SrcR (ns : List Int) (o : OutS) : Prop := ∃ M', o = .rt (.ref 1) M' ∧ ∃ A B C, M' = [.frz (ns.map D.int), A, B, C] ∧ Src M' 1 3
theorem cSrc_ok (ns : List Int) (h : ns.length ≤ 63) : SrcR ns (cSrc [some (.ref 0), none, none] [.frz (ns.map D.int)]) := by
  have fuel : 100 < FUEL := by unfold FUEL; decide
  have hlive : ∀ (i : Nat) (N : Store), itLive 0 i (.frz (ns.map D.int) :: N) = some (ns.map D.int)[i]? := fun i N => by simp [itLive, liveAt]
  unfold cSrc
  simp only [sSeq, sAsg, sPar, setAll, sRet, sRetN, sIf, sExpr, sAug, sSet, sSkip, sFor, sBreak, sCont, OutS.bindE, asg, asgs, partsD, StepR, Out.bind, eVar, eC, eBin, eUn, eIf, eAn, eOrr, eNt, eTup, eLst, lCons, lNil, eB, eLc, eCall, eMl, eMl0, eCut, oNone, oSome, dCut, eGet1, eGet2, eDict, pCons, pNil, eDicK, eDicT, eLrg1, eLrg2, rgIn1, rgIn2, tOf, asB, tTru, truthD, tNt, tAn, tOrr, itE, itD, itRange1, itRange2, itEnum, dAdd, dSub, dMulA, dMul, dFdiv, dMod, dNeg, dCmp, dLt, dLe, dGt, dGe, dIs, dMulI, dAddI, bAbs, bInt, bLen, bMax, bMin, bSum, bTuple, bList, isLst, List.getElem?_cons_zero, List.getElem?_cons_succ, List.getElem?_nil, List.set_cons_zero, List.set_cons_succ, if_true, if_false, Bool.false_eq_true, decide_eq_true_eq, List.map_cons, List.map_nil, List.replicate, List.length_cons, List.length_nil, List.cons_append, List.nil_append, wipeE, liveAt]
  refine for_ds (ns.map D.int) (R := fun o => SrcR ns (match o with
    | .nx eta' M' => sRet srcD eta' M'
    | o => o)) (fun i eta M => M = [.frz (ns.map D.int)] ∧ ∃ x j, eta = [some (.ref 0), some (.int x), j]) (by simp; omega) (fun i eta M hi => by rw [hi.1]; exact hlive i []) ⟨rfl, 11, none, rfl⟩ (fun i d eta M hd hi => ?_) (fun eta M hi => ?_)
  · obtain ⟨rfl, x, j, rfl⟩ := hi
    rw [List.getElem?_map] at hd
    obtain ⟨z, _, rfl⟩ := Option.map_eq_some_iff.mp hd
    refine ⟨[some (.ref 0), some (.int x), some (.int z)], rfl, ?_⟩
    unfold srcB
    simp only [sSeq, sAsg, sPar, setAll, sRet, sRetN, sIf, sExpr, sAug, sSet, sSkip, sFor, sBreak, sCont, OutS.bindE, asg, asgs, partsD, StepR, Out.bind, eVar, eC, eBin, eUn, eIf, eAn, eOrr, eNt, eTup, eLst, lCons, lNil, eB, eLc, eCall, eMl, eMl0, eCut, oNone, oSome, dCut, eGet1, eGet2, eDict, pCons, pNil, eDicK, eDicT, eLrg1, eLrg2, rgIn1, rgIn2, tOf, asB, tTru, truthD, tNt, tAn, tOrr, itE, itD, itRange1, itRange2, itEnum, dAdd, dSub, dMulA, dMul, dFdiv, dMod, dNeg, dCmp, dLt, dLe, dGt, dGe, dIs, dMulI, dAddI, bAbs, bInt, bLen, bMax, bMin, bSum, bTuple, bList, isLst, List.getElem?_cons_zero, List.getElem?_cons_succ, List.getElem?_nil, List.set_cons_zero, List.set_cons_succ, if_true, if_false, Bool.false_eq_true, decide_eq_true_eq, List.map_cons, List.map_nil, List.replicate, List.length_cons, List.length_nil, List.cons_append, List.nil_append, wipeE, mul1 (i := x) (j := 69069) (by decide), mul1 (i := z) (j := 31) (by decide), show (0 : Int) < 2147483629 from by decide]
    exact ⟨trivial, _, _, rfl⟩
  · obtain ⟨rfl, x, j, rfl⟩ := hi
    let ab : Nat → Int := fun i => if ns.getD i 0 < 0 then -ns.getD i 0 else ns.getD i 0
    have hlc := lc_pure (J := itLive 0) (t := .nm 2) (vs := [2]) (f := srcE) (eta := [some (.ref 0), some (.int x), j]) (M := [.frz (ns.map D.int), .dicK []]) ns.length (fun i => .int (ns.getD i 0)) (fun i => .int (ab i)) (by unfold cap; omega)
      (fun i acc hi => by rw [List.cons_append, hlive]; simp [hi, List.getElem?_eq_getElem hi]) (fun acc => by rw [List.cons_append, hlive]; simp) (fun i acc hi => ⟨[some (.ref 0), some (.int x), some (.int (ns.getD i 0))], rfl, by unfold srcE; simp only [sSeq, sAsg, sPar, setAll, sRet, sRetN, sIf, sExpr, sAug, sSet, sSkip, sFor, sBreak, sCont, OutS.bindE, asg, asgs, partsD, StepR, Out.bind, eVar, eC, eBin, eUn, eIf, eAn, eOrr, eNt, eTup, eLst, lCons, lNil, eB, eLc, eCall, eMl, eMl0, eCut, oNone, oSome, dCut, eGet1, eGet2, eDict, pCons, pNil, eDicK, eDicT, eLrg1, eLrg2, rgIn1, rgIn2, tOf, asB, tTru, truthD, tNt, tAn, tOrr, itE, itD, itRange1, itRange2, itEnum, dAdd, dSub, dMulA, dMul, dFdiv, dMod, dNeg, dCmp, dLt, dLe, dGt, dGe, dIs, dMulI, dAddI, bAbs, bInt, bLen, bMax, bMin, bSum, bTuple, bList, isLst, List.getElem?_cons_zero, List.getElem?_cons_succ, List.getElem?_nil, List.set_cons_zero, List.set_cons_succ, if_true, if_false, Bool.false_eq_true, decide_eq_true_eq, List.map_cons, List.map_nil, List.replicate, List.length_cons, List.length_nil, List.cons_append, List.nil_append, wipeE]; rfl⟩)
    have h1 : (eUn dRev (eLc (itE (eVar 0)) (.nm 2) [2] (tYesE) srcE)) [some (.ref 0), some (.int x), j] [.frz (ns.map D.int), .dicK []] = .ok (.ref 3) [.frz (ns.map D.int), .dicK [], .lst ((List.range ns.length).map fun i => D.int (ab i)), .lst ((List.range ns.length).map fun i => D.int (ab i)).reverse] := by
      have g : (eLc (itE (eVar 0)) (.nm 2) [2] (tYesE) srcE) [some (.ref 0), some (.int x), j] [.frz (ns.map D.int), .dicK []] = .ok (.ref 2) [.frz (ns.map D.int), .dicK [], .lst ((List.range ns.length).map fun i => D.int (ab i))] := hlc
      simp only [eUn, g, Out.bind]
      rfl
    have e : srcD [some (.ref 0), some (.int x), j] [.frz (ns.map D.int)] = .ok (.ref 1) [.frz (ns.map D.int), srcO 3 1 x 0, .lst ((List.range ns.length).map fun i => D.int (ab i)), .lst ((List.range ns.length).map fun i => D.int (ab i)).reverse] := by
      have h2 : (pCons (eC (.str "cells")) (eUn dRev (eLc (itE (eVar 0)) (.nm 2) [2] (tYesE) srcE)) (pCons (eC (.str "left")) (eC (.int 1)) (pCons (eC (.str "mixed")) (eVar 1) (pCons (eC (.str "turn")) (eC (.int 0)) (pNil))))) [some (.ref 0), some (.int x), j] ([.frz (ns.map D.int)] ++ [.dicK []])
          = .ok [(.str "cells", .ref 3), (.str "left", .int 1), (.str "mixed", .int x), (.str "turn", .int 0)] [.frz (ns.map D.int), .dicK [], .lst ((List.range ns.length).map fun i => D.int (ab i)), .lst ((List.range ns.length).map fun i => D.int (ab i)).reverse] := by
        simp only [pCons, pNil, eC, eVar, Out.bind, List.cons_append, List.nil_append, h1, List.getElem?_cons_succ, List.getElem?_cons_zero]
      unfold srcD eDict
      rw [h2]
      simp only [Out.bind, List.length_cons, List.length_nil, List.getElem?_cons_succ, List.getElem?_cons_zero, keysOf, keyK, merge_src]
      rfl
    show SrcR ns (sRet srcD [some (.ref 0), some (.int x), j] [.frz (ns.map D.int)])
    simp only [sSeq, sAsg, sPar, setAll, sRet, sRetN, sIf, sExpr, sAug, sSet, sSkip, sFor, sBreak, sCont, OutS.bindE, asg, asgs, partsD, StepR, Out.bind, eVar, eC, eBin, eUn, eIf, eAn, eOrr, eNt, eTup, eLst, lCons, lNil, eB, eLc, eCall, eMl, eMl0, eCut, oNone, oSome, dCut, eGet1, eGet2, eDict, pCons, pNil, eDicK, eDicT, eLrg1, eLrg2, rgIn1, rgIn2, tOf, asB, tTru, truthD, tNt, tAn, tOrr, itE, itD, itRange1, itRange2, itEnum, dAdd, dSub, dMulA, dMul, dFdiv, dMod, dNeg, dCmp, dLt, dLe, dGt, dGe, dIs, dMulI, dAddI, bAbs, bInt, bLen, bMax, bMin, bSum, bTuple, bList, isLst, List.getElem?_cons_zero, List.getElem?_cons_succ, List.getElem?_nil, List.set_cons_zero, List.set_cons_succ, if_true, if_false, Bool.false_eq_true, decide_eq_true_eq, List.map_cons, List.map_nil, List.replicate, List.length_cons, List.length_nil, List.cons_append, List.nil_append, wipeE, e]
    refine ⟨_, rfl, _, _, _, rfl, by decide, ((List.range ns.length).map ab).reverse, 1, x, 0, rfl, ?_, by simpa using h⟩
    simp
theorem src_ok {P : List Fn} {k i : Nat} {F : Fn} {ns : List Int} (hF : P[i]? = some F) (hn : F.nn = 3) (hp : F.np = 1) (hb : F.body = fun _ => cSrc) (h : ns.length ≤ 63) :
    ∃ A B C, tabOf P (k + 1) i [.ref 0] [.frz (ns.map D.int)] = .ok (.ref 1) [.frz (ns.map D.int), A, B, C] ∧ Src [.frz (ns.map D.int), A, B, C] 1 3 := by
  obtain ⟨M', e, A, B, C, rfl, hs⟩ := cSrc_ok ns h
  refine ⟨A, B, C, ?_, hs⟩
  rw [tab_at hF (by rw [hp]; rfl), hb, hn, hp]
  show finS _ (cSrc [some (.ref 0), none, none] _) = _
  rw [e]
  obtain ⟨cs, l, m, t, a1, a2, _⟩ := hs.at_
  have a1' : A = srcO 3 l m t := by simpa using a1
  subst a1'
  show gc [.frz (ns.map D.int)] (.ref 1) ([.frz (ns.map D.int)] ++ [srcO 3 l m t, B, C]) = _
  unfold gc
  rw [if_pos (keptOk_app _ _ _), if_neg (by simp [D.low])]
  simp [srcO, MO.low, lowL, D.low]
end Ev

/-! Ev, part T: loops and comprehensions over ints, as equations. -/
namespace Ev
open PySem L2

theorem seq_nx {f g : EvS} {eta eta' : Env} {M M' : Store} (h : f eta M = .nx eta' M') : sSeq f g eta M = g eta' M' := by simp only [sSeq, h]
theorem seq_rt {f g : EvS} {eta : Env} {d : D} {M M' : Store} (h : f eta M = .rt d M') : sSeq f g eta M = .rt d M' := by simp only [sSeq, h]
theorem asg_ok {f : EvE} {i : Nat} {eta : Env} {d : D} {M M' : Store} (h : f eta M = .ok d M') : sAsg (.nm i) f eta M = .nx (eta.set i (some d)) M' := by simp only [sAsg, h, OutS.bindE, asg]
theorem ret_ok {f : EvE} {eta : Env} {d : D} {M M' : Store} (h : f eta M = .ok d M') : sRet f eta M = .rt d M' := by simp only [sRet, h, OutS.bindE]
theorem if_ok {c : EvT} {f g : EvS} {eta : Env} {k : Bool} {M M' : Store} (h : c eta M = .ok k M') : sIf c f g eta M = if k = true then f eta M' else g eta M' := by simp only [sIf, h, OutS.bindE]
theorem call1 {T : Tab} {i : Nat} {f : EvE} {eta : Env} {d : D} {M M' : Store} (h : f eta M = .ok d M') : eCall T i (lCons f lNil) eta M = T i [d] M' := by simp only [eCall, lCons, lNil, h, Out.bind]
theorem bin_ok {op : D → D → Store → Out D} {f g : EvE} {eta : Env} {x y : D} {M M1 M2 : Store} (h1 : f eta M = .ok x M1) (h2 : g eta M1 = .ok y M2) : eBin op f g eta M = op x y M2 := by simp only [eBin, h1, h2, Out.bind]
theorem b1_ok {op : List D → Store → Out D} {f : EvE} {eta : Env} {x : D} {M M1 : Store} (h1 : f eta M = .ok x M1) : eB op (lCons f lNil) eta M = op [x] M1 := by simp only [eB, lCons, lNil, h1, Out.bind]

section
variable {f g h : EvE} {l l' : EvL} {c c' : EvT} {eta eta' : Env} {M M1 M2 M3 : Store} {d x y z : D} {ds : List D} {b b' : Bool} {T : Tab} {i j : Nat} {bd : EvS} {G : List D → Store → Out D} {Hm : D → List D → Store → Out D} {op : D → D → Store → Out D} {r : Out D}
theorem l0_ok : lNil eta M = .ok [] M := rfl
theorem lc_ok (h1 : f eta M = .ok d M1) (h2 : l eta M1 = .ok ds M2) : lCons f l eta M = .ok (d :: ds) M2 := by simp only [lCons, h1, h2, Out.bind]
theorem l1_ok (h1 : f eta M = .ok d M1) : lCons f lNil eta M = .ok [d] M1 := lc_ok h1 rfl
theorem l2_ok (h1 : f eta M = .ok d M1) (h2 : g eta M1 = .ok x M2) : lCons f (lCons g lNil) eta M = .ok [d, x] M2 := lc_ok h1 (l1_ok h2)
theorem callL_ok (h1 : l eta M = .ok ds M1) (h2 : T i ds M1 = r) : eCall T i l eta M = r := by simp only [eCall, h1, Out.bind, h2]
theorem bL_ok (h1 : l eta M = .ok ds M1) (h2 : G ds M1 = r) : eB G l eta M = r := by simp only [eB, h1, Out.bind, h2]
theorem ml_ok (h1 : f eta M = .ok x M1) (h2 : isLst x M1 = true) (h3 : l eta M1 = .ok ds M2) (h4 : Hm x ds M2 = r) : eMl Hm f l eta M = r := by simp only [eMl, h1, h2, h3, Out.bind, if_true, h4]
theorem ml0_ok (h1 : f eta M = .ok x M1) (h2 : isLst x M1 = true) (h4 : Hm x [] M1 = r) : eMl0 Hm f eta M = r := by simp only [eMl0, h1, h2, Out.bind, if_true, h4]
theorem expr_ok (h1 : f eta M = .ok d M1) : sExpr f eta M = .nx eta M1 := by simp only [sExpr, h1, OutS.bindE]
theorem bi_ok (h1 : f eta M = .ok x M1) (h2 : g eta M1 = .ok y M2) (h3 : op x y M2 = r) : eBin op f g eta M = r := by simp only [eBin, h1, h2, Out.bind, h3]
theorem tOf_ok (h1 : f eta M = .ok (.bl b) M1) : tOf f eta M = .ok b M1 := by simp only [tOf, h1, Out.bind, asB]
theorem tAn_ok (h1 : c eta M = .ok true M1) (h2 : c' eta M1 = .ok b M2) : tAn c c' eta M = .ok b M2 := by simp only [tAn, h1, Out.bind, if_true, h2]
theorem tAn_no (h1 : c eta M = .ok false M1) : tAn c c' eta M = .ok false M1 := by simp only [tAn, h1, Out.bind, Bool.false_eq_true, if_false]
theorem tOrr_no (h1 : c eta M = .ok false M1) (h2 : c' eta M1 = .ok b M2) : tOrr c c' eta M = .ok b M2 := by simp only [tOrr, h1, Out.bind, Bool.false_eq_true, if_false, h2]
theorem tOrr_ok (h1 : c eta M = .ok true M1) : tOrr c c' eta M = .ok true M1 := by simp only [tOrr, h1, Out.bind, if_true]
theorem par2_ok (h1 : l eta M = .ok [x, y] M1) : sPar [i, j] l eta M = .nx ((eta.set i (some x)).set j (some y)) M1 := by simp only [sPar, h1, OutS.bindE, setAll]
theorem aug_ok (h0 : eta[i]? = some (some x)) (h1 : f eta M = .ok y M1) (h2 : op x y M1 = .ok z M2) : sAug i op f eta M = .nx (eta.set i (some z)) M2 := by simp only [sAug, h0, h1, h2, Out.bind, OutS.bindE]
theorem set_ok (h1 : f eta M = .ok d M1) (h2 : g eta M1 = .ok x M2) (h3 : h eta M2 = .ok y M3) {M4 : Store} (h4 : setD x y d M3 = .ok () M4) : sSet g h f eta M = .nx eta M4 := by simp only [sSet, h1, h2, h3, h4, Out.bind, OutS.bindE]
theorem tup_ok (h1 : l eta M = .ok ds M1) (h2 : ds.length ≤ cap) : eTup l eta M = .ok (.tup ds) M1 := by simp only [eTup, h1, Out.bind, if_pos h2]
theorem lst_ok (h1 : l eta M = .ok ds M1) (h2 : ds.length ≤ cap) : eLst l eta M = .ok (.ref M1.length) (M1 ++ [.lst ds]) := by simp only [eLst, h1, Out.bind, if_pos h2]
theorem an_ok (h1 : f eta M = .ok (.bl true) M1) (h2 : g eta M1 = r) : eAn f g eta M = r := by simp only [eAn, h1, Out.bind, truthD, if_true, h2]
theorem if_no {bd' : EvS} (h : c eta M = .ok false M1) : sIf c bd bd' eta M = bd' eta M1 := by rw [if_ok h]; rfl
theorem if_yes {bd' : EvS} (h : c eta M = .ok true M1) : sIf c bd bd' eta M = bd eta M1 := by rw [if_ok h]; rfl
theorem eif_ok (h1 : c eta M = .ok b M1) : eIf c f g eta M = if b = true then f eta M1 else g eta M1 := by simp only [eIf, h1, Out.bind]
end
theorem range2_ok {a b : EvE} {i j : Int} {eta : Env} {M : Store} (ha : a eta M = .ok (.int i) M) (hb : b eta M = .ok (.int j) M) (hr : 0 ≤ i ∧ i < 1000 ∧ 0 ≤ j ∧ j < 1000) : itRange2 (lCons a (lCons b lNil)) eta M = .ok (itRg i (j - i).toNat) M := by
  have h : -(2 ^ 62) ≤ i ∧ i < 2 ^ 62 ∧ -(2 ^ 62) ≤ j ∧ j < 2 ^ 62 := by
    have : (2 : Int) ^ 62 = 4611686018427387904 := by decide
    omega
  simp only [itRange2, lCons, lNil, ha, hb, Out.bind, if_pos h]
theorem range1_ok {b : EvE} {j : Int} {eta : Env} {M : Store} (hb : b eta M = .ok (.int j) M) (hr : 0 ≤ j ∧ j < 1000) : itRange1 (lCons b lNil) eta M = .ok (itRg 0 j.toNat) M := by
  have h : -(2 ^ 62) ≤ j ∧ j < 2 ^ 62 := by
    have : (2 : Int) ^ 62 = 4611686018427387904 := by decide
    omega
  simp only [itRange1, lCons, lNil, hb, Out.bind, if_pos h]

/-- a for loop over a range that no turn leaves -/
theorem sfor_rg {it : EvIt} {lo : Int} {n : Nat} {t : Tgt} {b : EvS} {eta : Env} {M : Store} (hit : it eta M = .ok (itRg lo n) M) (hn : n ≤ 1000) (I : Nat → Env → Store → Prop) (h0 : I 0 eta M)
    (step : ∀ i eta M, i < n → I i eta M → ∃ eta1, asg M t (.int (lo + i)) eta = some eta1 ∧ ∃ eta' M', b eta1 M = .nx eta' M' ∧ I (i + 1) eta' M') : ∃ eta' M', sFor it t b eta M = .nx eta' M' ∧ I n eta' M' := by
  have := for_rg (t := t) (b := b) (R := fun o => ∃ eta' M', o = .nx eta' M' ∧ I n eta' M') I (show n < FUEL by unfold FUEL; omega) h0 (fun i e N hi hI => by
    obtain ⟨eta1, h1, e', N', h2, h3⟩ := step i e N hi hI
    exact ⟨eta1, h1, by rw [h2]; exact h3⟩) (fun e N hI => ⟨e, N, rfl, hI⟩) (lo := lo)
  obtain ⟨e', N', h1, h2⟩ := this
  exact ⟨e', N', by simp only [sFor, hit, OutS.bindE, h1], h2⟩
/-- .. over members that are known; the turns may leave it: R of the whole -/
theorem sfor_ds {it : EvIt} {J : Iter} (ds : List D) {t : Tgt} {b : EvS} {R : OutS → Prop} {eta : Env} {M M1 : Store} (hit : it eta M = .ok J M1) (I : Nat → Env → Store → Prop) (hn : ds.length ≤ 1000000) (hJ : ∀ i eta M, I i eta M → J i M = some ds[i]?) (h0 : I 0 eta M1)
    (step : ∀ i d eta M, ds[i]? = some d → I i eta M → ∃ eta1, asg M t d eta = some eta1 ∧ StepR (I (i + 1)) R (b eta1 M)) (hend : ∀ eta M, I ds.length eta M → R (.nx eta M)) : R (sFor it t b eta M) := by
  have := for_ds ds (R := R) I (show ds.length < FUEL by unfold FUEL; omega) hJ h0 step hend
  simp only [sFor, hit, OutS.bindE]
  exact this
theorem lcI_rg {it : EvIt} {lo : Int} {n : Nat} {j : Nat} {f : EvE} {eta : Env} {M : Store} (g : Nat → Int) (hit : it eta M = .ok (itRg lo n) M) (hn : n ≤ 1000)
    (step : ∀ i acc, i < n → f ((eta.set j none).set j (some (.int (lo + i)))) (M ++ [.lst acc]) = .ok (.int (g i)) (M ++ [.lst acc])) : eLc it (.nm j) [j] tYesE f eta M = .ok (.ref M.length) (M ++ [.lst (((List.range n).map g).map D.int)]) := by
  have h := lc_pure (J := itRg lo n) (t := .nm j) (vs := [j]) (f := f) (eta := eta) (M := M) n (fun i => .int (lo + (i : Int))) (fun i => .int (g i)) (by unfold cap; omega) (fun i acc hi => by simp [itRg, hi]) (fun acc => by simp [itRg]) (fun i acc hi => ⟨_, rfl, step i acc hi⟩)
  simp only [eLc, hit, Out.bind, h, List.map_map]
  rfl
theorem lcI_rgf {it : EvIt} {lo : Int} {n : Nat} {j : Nat} {c : EvT} {f : EvE} {eta : Env} {M : Store} (q : Nat → Bool) (g : Nat → Int) (hit : it eta M = .ok (itRg lo n) M) (hn : n ≤ 1000)
    (step : ∀ i acc, i < n → c ((eta.set j none).set j (some (.int (lo + i)))) (M ++ [.lst acc]) = .ok (q i) (M ++ [.lst acc]) ∧ (q i = true → f ((eta.set j none).set j (some (.int (lo + i)))) (M ++ [.lst acc]) = .ok (.int (g i)) (M ++ [.lst acc]))) :
    eLc it (.nm j) [j] c f eta M = .ok (.ref M.length) (M ++ [.lst ((((List.range n).filter q).map g).map D.int)]) := by
  have h := lc_filter (J := itRg lo n) (t := .nm j) (vs := [j]) (c := c) (f := f) (eta := eta) (M := M) n (fun i => .int (lo + (i : Int))) q (fun i => .int (g i)) (by unfold cap; omega) (fun i acc hi => by simp [itRg, hi]) (fun acc => by simp [itRg]) (fun i acc hi => ⟨_, rfl, step i acc hi⟩)
  simp only [eLc, hit, Out.bind, h, List.map_map]
  rfl
theorem lcI_ints {e : EvE} {n : Nat} {j : Nat} {f : EvE} {eta : Env} {M M1 : Store} (L : List Int) (g : Int → Int) (he : e eta M = .ok (.ref n) M1) (hl : M1[n]? = some (.lst (L.map D.int))) (hn : L.length ≤ 1000)
    (step : ∀ x acc, x ∈ L → f ((eta.set j none).set j (some (.int x))) (M1 ++ [.lst acc]) = .ok (.int (g x)) (M1 ++ [.lst acc])) : eLc (itE e) (.nm j) [j] tYesE f eta M = .ok (.ref M1.length) (M1 ++ [.lst ((L.map g).map D.int)]) := by
  have hJ : ∀ (i : Nat) (acc : List D), itLive n i (M1 ++ [.lst acc]) = some (L.map D.int)[i]? := fun i acc => by simp only [itLive, liveAt, app_old hl, Option.map_some]
  have h := lc_pure (J := itLive n) (t := .nm j) (vs := [j]) (f := f) (eta := eta) (M := M1) L.length (fun i => .int (L.getD i 0)) (fun i => .int (g (L.getD i 0))) (by unfold cap; omega)
    (fun i acc hi => by rw [hJ]; simp [hi, List.getElem?_eq_getElem hi]) (fun acc => by rw [hJ]; simp) (fun i acc hi => ⟨_, rfl, step _ acc (by simp [hi, List.getElem?_eq_getElem hi])⟩)
  have e2 : (List.range L.length).map (fun i => D.int (g (L.getD i 0))) = (L.map g).map D.int := by
    apply List.ext_getElem?
    intro i
    rw [List.getElem?_map, List.getElem?_map, List.getElem?_map]
    by_cases hi : i < L.length
    · simp [hi, List.getElem?_eq_getElem hi]
    · simp [List.getElem?_eq_none (show L.length ≤ i by omega), List.getElem?_eq_none (show (List.range L.length).length ≤ i by simp; omega)]
  have hit : itE e eta M = .ok (itLive n) M1 := by simp only [itE, he, Out.bind, itD, liveAt, hl]
  simp only [eLc, hit, Out.bind]
  rw [h, e2]
theorem lowL_ints (k : Nat) : ∀ L : List Int, lowL k (L.map D.int) = true
  | [] => rfl
  | x :: L => by simp only [List.map_cons, lowL, D.low, Bool.true_and]; exact lowL_ints k L
/-- a def hands back a new list of ints -/
theorem fin_ints {M N : Store} {n : Nat} {L : List Int} (hn : M.length ≤ n) (h : (M ++ N)[n]? = some (.lst (L.map D.int))) : finS M (.rt (.ref n) (M ++ N)) = .ok (.ref M.length) (M ++ [.lst (L.map D.int)]) :=
  gc_new hn h rfl (lowL_ints _ _)
theorem fin_int {M N : Store} {i : Int} : finS M (.rt (.int i) (M ++ N)) = .ok (.int i) M := gc_old rfl
theorem fin_int0 {M : Store} {i : Int} : finS M (.rt (.int i) M) = .ok (.int i) M := gc_old0 rfl
end Ev

namespace Ev
open PySem PySem.Spec PyProof.Rows L2
def topAt (i : Nat) : Stmt := PySem.Challenge.pw_lumpplans_k12_whole_brackets_do_not_matt.main.body.getD i (.Pass ⟨0, 0, 0, 0⟩)
abbrev st0 : Stmt := topAt 1
abbrev nm0 : List Str := ["table"]
/-- table_size -/
def d0 (t : Tab) : EvS :=
  sRet (eBin dAdd (eB bLen (lCons (eVar 0) (lNil))) (eC (.int 1)))
abbrev st1 : Stmt := topAt 2
abbrev nm1 : List Str := ["table", "m"]
/-- entry -/
def d1 (t : Tab) : EvS :=
  sRet (eIf (tOf (eBin (dEq false) (eVar 1) (eC (.int 1)))) (eTup (lNil)) (eBin dIx (eVar 0) (eBin dSub (eVar 1) (eC (.int 2)))))
abbrev st2 : Stmt := topAt 4
abbrev nm2 : List Str := ["m", "b", "begin"]
def d2_e0 (t : Tab) : EvE := eTup (lCons (eVar 2) (lCons (eB bMin (lCons (eBin dAdd (eVar 2) (eVar 1)) (lCons (eVar 0) (lNil)))) (lNil)))
/-- stretches -/
def d2 (t : Tab) : EvS :=
  sRet (eLc (itRange3 (lCons (eC (.int 0)) (lCons (eVar 0) (lCons (eVar 1) (lNil))))) (.nm 2) [2] (tYesE) (d2_e0 t))
abbrev st3 : Stmt := topAt 5
abbrev nm3 : List Str := ["shape", "parts", "left"]
/-- filled -/
def d3 (t : Tab) : EvS :=
  sSeq (sIf (tOf (eBin (dEq false) (eVar 0) (eTup (lNil)))) (sRet (eMl mPop (eVar 1) (lCons (eC (.int 0)) (lNil)))) (sSkip)) (sSeq (sAsg (.nm 2) (eCall t 3 (lCons (eBin dIx (eVar 0) (eC (.int 0))) (lCons (eVar 1) (lNil))))) (sRet (eTup (lCons (eVar 2) (lCons (eCall t 3 (lCons (eBin dIx (eVar 0) (eC (.int 1))) (lCons (eVar 1) (lNil)))) (lNil))))))
abbrev st4 : Stmt := topAt 6
abbrev nm4 : List Str := ["s", "t", "m", "parts", "begin", "end"]
def d4_e0 (t : Tab) : EvE := eCall t 1 (lCons (eVar 0) (lCons (eBin dSub (eVar 5) (eVar 4)) (lNil)))
/-- glued_entry -/
def d4 (t : Tab) : EvS :=
  sSeq (sAsg (.nm 3) (eLc (itE (eCall t 2 (lCons (eVar 2) (lCons (eCall t 0 (lCons (eVar 0) (lNil))) (lNil))))) (.tp [.nm 4, .nm 5]) [4, 5] (tYesE) (d4_e0 t))) (sRet (eCall t 3 (lCons (eCall t 1 (lCons (eVar 1) (lCons (eB bLen (lCons (eVar 3) (lNil))) (lNil)))) (lCons (eVar 3) (lNil)))))
abbrev st5 : Stmt := topAt 7
abbrev nm5 : List Str := ["s", "t", "m"]
def d5_e0 (t : Tab) : EvE := eCall t 4 (lCons (eVar 0) (lCons (eVar 1) (lCons (eVar 2) (lNil))))
/-- glue -/
def d5 (t : Tab) : EvS :=
  sRet (eB bTuple (lCons (eLc (itRange2 (lCons (eC (.int 2)) (lCons (eBin dAdd (eBin dMulA (eCall t 0 (lCons (eVar 0) (lNil))) (eCall t 0 (lCons (eVar 1) (lNil)))) (eC (.int 1))) (lNil)))) (.nm 2) [2] (tYesE) (d5_e0 t)) (lNil)))
abbrev st6 : Stmt := topAt 8
abbrev nm6 : List Str := ["tables", "found", "table"]
def d6_b0 (t : Tab) : EvS := sAsg (.nm 1) (eCall t 5 (lCons (eVar 1) (lCons (eVar 2) (lNil))))
/-- glued -/
def d6 (t : Tab) : EvS :=
  sSeq (sAsg (.nm 1) (eBin dIx (eVar 0) (eC (.int 0)))) (sSeq (sFor (itE (eCut (eVar 0) (oSome (eC (.int 1))) oNone)) (.nm 2) (d6_b0 t)) (sRet (eVar 1)))
abbrev st7 : Stmt := topAt 10
abbrev nm7 : List Str := ["_law_script", "_law_mixed", "_law_cell"]
def d7_b0 (t : Tab) : EvS := sAsg (.nm 1) (eBin dMod (eB bInt (lCons (eBin dAdd (eBin dAdd (eBin dMulA (eVar 1) (eC (.int 69069))) (eBin dMulA (eVar 2) (eC (.int 31)))) (eC (.int 5))) (lNil))) (eC (.int 2147483629)))
def d7_e0 (t : Tab) : EvE := eB bAbs (lCons (eVar 2) (lNil))
/-- _law_source -/
def d7 (t : Tab) : EvS :=
  sSeq (sAsg (.nm 1) (eC (.int 11))) (sSeq (sFor (itE (eVar 0)) (.nm 2) (d7_b0 t)) (sRet (eDict (pCons (eC (.str "cells")) (eUn dRev (eLc (itE (eVar 0)) (.nm 2) [2] (tYesE) (d7_e0 t))) (pCons (eC (.str "left")) (eC (.int 1)) (pCons (eC (.str "mixed")) (eVar 1) (pCons (eC (.str "turn")) (eC (.int 0)) (pNil))))))))
abbrev st8 : Stmt := topAt 11
abbrev nm8 : List Str := ["_law_source_here", "_law_many", "_law_left", "_law_mixed"]
def d8_q0 (t : Tab) : EvT := tAn (tOf (eBin dGt (eVar 1) (eC (.int 1)))) (tAn (tOf (eBin dLt (eBin dIx (eVar 0) (eC (.str "left"))) (eC (.int 2)))) (tOf (eBin dGt (eB bLen (lCons (eBin dIx (eVar 0) (eC (.str "cells"))) (lNil))) (eC (.int 0)))))
def d8_b0 (t : Tab) : EvS := sSet (eVar 0) (eC (.str "left")) (eMl0 mPop (eBin dIx (eVar 0) (eC (.str "cells"))))
/-- _law_pick -/
def d8 (t : Tab) : EvS :=
  sSeq (sWhile (d8_q0 t) (d8_b0 t) FUEL) (sSeq (sAsg (.nm 2) (eBin dIx (eVar 0) (eC (.str "left")))) (sSeq (sIf (tOrr (tOf (eBin dLt (eVar 1) (eC (.int 2)))) (tOf (eBin dGt (eVar 2) (eC (.int 1))))) (sSeq (sSet (eVar 0) (eC (.str "left")) (eBin dFdiv (eVar 2) (eB bMax (lCons (eC (.int 1)) (lCons (eVar 1) (lNil)))))) (sRet (eBin dMod (eB bInt (lCons (eVar 2) (lNil))) (eB bMax (lCons (eC (.int 1)) (lCons (eVar 1) (lNil))))))) (sSkip)) (sSeq (sSet (eVar 0) (eC (.str "turn")) (eBin dAdd (eBin dIx (eVar 0) (eC (.str "turn"))) (eC (.int 1)))) (sSeq (sAsg (.nm 3) (eBin dMod (eB bInt (lCons (eBin dAdd (eBin dIx (eVar 0) (eC (.str "mixed"))) (eBin dMulA (eBin dIx (eVar 0) (eC (.str "turn"))) (eC (.int 104729)))) (lNil))) (eC (.int 998244353)))) (sSeq (sAsg (.nm 3) (eBin dMod (eB bInt (lCons (eBin dAdd (eBin dMulA (eVar 3) (eVar 3)) (eBin dMulA (eBin dIx (eVar 0) (eC (.str "turn"))) (eC (.int 17)))) (lNil))) (eC (.int 2147483647)))) (sSeq (sSet (eVar 0) (eC (.str "mixed")) (eVar 3)) (sRet (eBin dMod (eB bInt (lCons (eBin dFdiv (eVar 3) (eC (.int 16))) (lNil))) (eVar 1)))))))))
abbrev st9 : Stmt := topAt 12
abbrev nm9 : List Str := ["_law_source_here", "_law_some"]
/-- _law_of -/
def d9 (t : Tab) : EvS :=
  sRet (eBin dIx (eVar 1) (eCall t 8 (lCons (eVar 0) (lCons (eB bLen (lCons (eVar 1) (lNil))) (lNil)))))
abbrev st10 : Stmt := topAt 13
abbrev nm10 : List Str := ["_law_source_here", "_law_size", "_law_at"]
/-- _law_shape -/
def d10 (t : Tab) : EvS :=
  sSeq (sIf (tOf (eBin (dEq false) (eVar 1) (eC (.int 1)))) (sRet (eTup (lNil))) (sSkip)) (sSeq (sAsg (.nm 2) (eCall t 9 (lCons (eVar 0) (lCons (eLst (lCons (eBin dAdd (eC (.int 1)) (eCall t 8 (lCons (eVar 0) (lCons (eBin dSub (eVar 1) (eC (.int 1))) (lNil))))) (lCons (eBin dAdd (eC (.int 1)) (eCall t 8 (lCons (eVar 0) (lCons (eBin dSub (eVar 1) (eC (.int 1))) (lNil))))) (lCons (eBin dFdiv (eVar 1) (eC (.int 2))) (lCons (eC (.int 1)) (lCons (eBin dSub (eVar 1) (eC (.int 1))) (lNil))))))) (lNil))))) (sRet (eTup (lCons (eCall t 10 (lCons (eVar 0) (lCons (eVar 2) (lNil)))) (lCons (eCall t 10 (lCons (eVar 0) (lCons (eBin dSub (eVar 1) (eVar 2)) (lNil)))) (lNil))))))
abbrev st11 : Stmt := topAt 14
abbrev nm11 : List Str := ["_law_source_here", "_law_size", "_law_m"]
def d11_e0 (t : Tab) : EvE := eCall t 10 (lCons (eVar 0) (lCons (eVar 2) (lNil)))
/-- _law_table -/
def d11 (t : Tab) : EvS :=
  sRet (eB bTuple (lCons (eLc (itRange2 (lCons (eC (.int 2)) (lCons (eBin dAdd (eVar 1) (eC (.int 1))) (lNil)))) (.nm 2) [2] (tYesE) (d11_e0 t)) (lNil)))
abbrev st12 : Stmt := topAt 15
abbrev nm12 : List Str := ["_law_source_here", "_law_many", "_law_most", "_law_found", "_law_room", "_law_lap"]
def d12_b0 (t : Tab) : EvS := sIf (tOf (eBin dGt (eVar 4) (eC (.int 1)))) (sSeq (sExpr (eMl mAppend (eVar 3) (lCons (eBin dAdd (eC (.int 2)) (eCall t 8 (lCons (eVar 0) (lCons (eBin dSub (eB bMin (lCons (eC (.int 12)) (lCons (eVar 4) (lNil)))) (eC (.int 1))) (lNil))))) (lNil)))) (sAsg (.nm 4) (eBin dFdiv (eVar 4) (eBin dIx (eVar 3) (eUn dNeg (eC (.int 1))))))) (sSkip)
/-- _law_sized -/
def d12 (t : Tab) : EvS :=
  sSeq (sPar [3, 4] (lCons (eLst (lNil)) (lCons (eVar 2) (lNil)))) (sSeq (sFor (itRange1 (lCons (eVar 1) (lNil))) (.nm 5) (d12_b0 t)) (sRet (eVar 3)))
abbrev st13 : Stmt := topAt 16
abbrev nm13 : List Str := ["_law_script", "_law_source_here", "_law_lap", "_law_tables", "_law_due", "_law_size", "_law_table_here", "_law_at", "_law_one", "_law_other", "_law_told"]
def d13_e0 (t : Tab) : EvE := eCall t 11 (lCons (eVar 1) (lCons (eVar 5) (lNil)))
def d13_b0 (t : Tab) : EvS := sAsg (.nm 5) (eBin dMulA (eVar 5) (eCall t 0 (lCons (eVar 6) (lNil))))
def d13_b1 (t : Tab) : EvS := sIf (tOf (eBin (dEq true) (eCall t 5 (lCons (eCall t 6 (lCons (eCut (eVar 3) oNone (oSome (eVar 7))) (lNil))) (lCons (eCall t 6 (lCons (eCut (eVar 3) (oSome (eVar 7)) oNone) (lNil))) (lNil)))) (eVar 4))) (sRet (eC (.bl false))) (sSkip)
def d13_b2 (t : Tab) : EvS := sIf (tOf (eBin (dEq true) (eCall t 6 (lCons (eBin dAdd (eBin dAdd (eCut (eVar 3) oNone (oSome (eVar 7))) (eLst (lCons (eCall t 5 (lCons (eBin dIx (eVar 3) (eVar 7)) (lCons (eBin dIx (eVar 3) (eBin dAdd (eVar 7) (eC (.int 1)))) (lNil)))) (lNil)))) (eCut (eVar 3) (oSome (eBin dAdd (eVar 7) (eC (.int 2)))) oNone)) (lNil))) (eVar 4))) (sRet (eC (.bl false))) (sSkip)
def d13_b3 (t : Tab) : EvS := sSeq (sAsg (.nm 10) (eLst (lCons (eBin (dEq false) (eCall t 5 (lCons (eVar 8) (lCons (eVar 6) (lNil)))) (eCall t 5 (lCons (eVar 9) (lCons (eVar 6) (lNil))))) (lCons (eBin (dEq false) (eCall t 5 (lCons (eVar 6) (lCons (eVar 8) (lNil)))) (eCall t 5 (lCons (eVar 6) (lCons (eVar 9) (lNil))))) (lNil))))) (sIf (tOf (eBin (dEq true) (eVar 10) (eBin dMulA (eLst (lCons (eBin (dEq false) (eVar 8) (eVar 9)) (lNil))) (eC (.int 2))))) (sRet (eC (.bl false))) (sSkip))
def d13_b4 (t : Tab) : EvS := sSeq (sAsg (.nm 3) (eLc (itE (eCall t 12 (lCons (eVar 1) (lCons (eC (.int 4)) (lCons (eC (.int 60)) (lNil)))))) (.nm 5) [5] (tYesE) (d13_e0 t))) (sSeq (sPar [4, 5] (lCons (eCall t 6 (lCons (eVar 3) (lNil))) (lCons (eC (.int 1)) (lNil)))) (sSeq (sFor (itE (eVar 3)) (.nm 6) (d13_b0 t)) (sSeq (sIf (tOrr (tOf (eBin (dEq true) (eCall t 0 (lCons (eVar 4) (lNil))) (eVar 5))) (tOf (eBin (dEq true) (eB bLen (lCons (eVar 4) (lNil))) (eBin dSub (eVar 5) (eC (.int 1)))))) (sRet (eC (.bl false))) (sSkip)) (sSeq (sFor (itRange2 (lCons (eC (.int 1)) (lCons (eB bLen (lCons (eVar 3) (lNil))) (lNil)))) (.nm 7) (d13_b1 t)) (sSeq (sFor (itRange1 (lCons (eBin dSub (eB bLen (lCons (eVar 3) (lNil))) (eC (.int 1))) (lNil))) (.nm 7) (d13_b2 t)) (sSeq (sPar [8, 9] (lCons (eBin dIx (eVar 3) (eC (.int 0))) (lCons (eCall t 11 (lCons (eVar 1) (lCons (eBin dAdd (eB bLen (lCons (eBin dIx (eVar 3) (eC (.int 0))) (lNil))) (eC (.int 1))) (lNil)))) (lNil)))) (sFor (itE (eCut (eVar 3) (oSome (eC (.int 1))) (oSome (eC (.int 2))))) (.nm 6) (d13_b3 t))))))))
/-- law -/
def d13 (t : Tab) : EvS :=
  sSeq (sAsg (.nm 1) (eCall t 7 (lCons (eVar 0) (lNil)))) (sSeq (sFor (itRange1 (lCons (eC (.int 3)) (lNil))) (.nm 2) (d13_b4 t)) (sRet (eC (.bl true))))
def Prog : List Fn := [⟨1, 1, d0⟩, ⟨2, 2, d1⟩, ⟨3, 2, d2⟩, ⟨3, 2, d3⟩, ⟨6, 3, d4⟩, ⟨3, 2, d5⟩, ⟨3, 1, d6⟩, ⟨3, 1, d7⟩, ⟨4, 2, d8⟩, ⟨2, 2, d9⟩, ⟨3, 2, d10⟩, ⟨3, 2, d11⟩, ⟨6, 3, d12⟩, ⟨11, 1, d13⟩]
structure Wd (K : PySem.W.Frag) (mg : Str → Option Value) (ad : Nat → Addr) : Prop where
  m0 : mg "table_size" = some (.ref (ad 0))
  k0 : PySem.W.keepIn K (.ref (ad 0)) = true
  m1 : mg "entry" = some (.ref (ad 1))
  k1 : PySem.W.keepIn K (.ref (ad 1)) = true
  m2 : mg "stretches" = some (.ref (ad 2))
  k2 : PySem.W.keepIn K (.ref (ad 2)) = true
  m3 : mg "filled" = some (.ref (ad 3))
  k3 : PySem.W.keepIn K (.ref (ad 3)) = true
  m4 : mg "glued_entry" = some (.ref (ad 4))
  k4 : PySem.W.keepIn K (.ref (ad 4)) = true
  m5 : mg "glue" = some (.ref (ad 5))
  k5 : PySem.W.keepIn K (.ref (ad 5)) = true
  m6 : mg "glued" = some (.ref (ad 6))
  k6 : PySem.W.keepIn K (.ref (ad 6)) = true
  m7 : mg "_law_source" = some (.ref (ad 7))
  k7 : PySem.W.keepIn K (.ref (ad 7)) = true
  m8 : mg "_law_pick" = some (.ref (ad 8))
  k8 : PySem.W.keepIn K (.ref (ad 8)) = true
  m9 : mg "_law_of" = some (.ref (ad 9))
  k9 : PySem.W.keepIn K (.ref (ad 9)) = true
  m10 : mg "_law_shape" = some (.ref (ad 10))
  k10 : PySem.W.keepIn K (.ref (ad 10)) = true
  m11 : mg "_law_table" = some (.ref (ad 11))
  k11 : PySem.W.keepIn K (.ref (ad 11)) = true
  m12 : mg "_law_sized" = some (.ref (ad 12))
  k12 : PySem.W.keepIn K (.ref (ad 12)) = true
  m13 : mg "law" = some (.ref (ad 13))
  k13 : PySem.W.keepIn K (.ref (ad 13)) = true
  b_abs : mg "abs" = none
  b_int : mg "int" = none
  b_len : mg "len" = none
  b_max : mg "max" = none
  b_min : mg "min" = none
  b_range : mg "range" = none
  b_tuple : mg "tuple" = none
theorem boot_bi_abs : bootBuiltins "abs" = some (.builtin "abs") := by decide +kernel
theorem boot_ty_int : bootBuiltins "int" = some (.type "int") := by decide +kernel
theorem boot_bi_len : bootBuiltins "len" = some (.builtin "len") := by decide +kernel
theorem boot_bi_max : bootBuiltins "max" = some (.builtin "max") := by decide +kernel
theorem boot_bi_min : bootBuiltins "min" = some (.builtin "min") := by decide +kernel
theorem boot_ty_tuple : bootBuiltins "tuple" = some (.type "tuple") := by decide +kernel
theorem sc0 : FnScope nm0 ["table"] (defScope st0) := ⟨rfl, rfl, rfl, by decide +kernel, rfl, by decide +kernel, by decide +kernel⟩
abbrev X0 (P : Program) (w : World) (K : PySem.W.Frag) (mg : Str → Option Value) (base : Heap) (f : Addr) (cdv : Value) (A : Around) (outer : List PySem.Env) (s : Shared) (H : Hp) (E : XK) : Cx := cxOf (L2.CX P w) P w K mg base nm0 "table_size" (defScope st0) f cdv A outer s H E
set_option maxHeartbeats 4000000 in
theorem dv0 {G : Gd} {P : Program} {w : World} {mg : Str → Option Value} {base : Heap} {k : Nat} {ad : Nat → Addr} {t : Tab} (Z : Wd G.K mg ad) (F : ∀ i, FG P w G.K mg base k (ad i) (spT G (t i)))
    {f : Addr} {cdv : Value} {A : Around} {outer : List PySem.Env} {s : Shared} {H : Hp} {E : XK} {W : WX} (ok : Okk G (X0 P w G.K mg base f cdv A outer s H E) k) (tk : Takes (X0 P w G.K mg base f cdv A outer s H E) W)
    (hp : PassesOwn (model P w) (X0 P w G.K mg base f cdv A outer s H E).A (X0 P w G.K mg base f cdv A outer s H E).env (X0 P w G.K mg base f cdv A outer s H E).xe) :
    PSsv G (X0 P w G.K mg base f cdv A outer s H E) W (d0 t) (defBody st0) :=
  sv_one (sv_ret (ev_bin op_addV (ds_add ok.hK) (ev_callB cr_lenV (cs_len ok.hK) (by rfl) Z.b_len boot_bi_len (lv_cons (ev_var (i := 0)) (lv_nil))) (ev_int)))
theorem sc1 : FnScope nm1 ["table", "m"] (defScope st1) := ⟨rfl, rfl, rfl, by decide +kernel, rfl, by decide +kernel, by decide +kernel⟩
abbrev X1 (P : Program) (w : World) (K : PySem.W.Frag) (mg : Str → Option Value) (base : Heap) (f : Addr) (cdv : Value) (A : Around) (outer : List PySem.Env) (s : Shared) (H : Hp) (E : XK) : Cx := cxOf (L2.CX P w) P w K mg base nm1 "entry" (defScope st1) f cdv A outer s H E
set_option maxHeartbeats 4000000 in
theorem dv1 {G : Gd} {P : Program} {w : World} {mg : Str → Option Value} {base : Heap} {k : Nat} {ad : Nat → Addr} {t : Tab} (Z : Wd G.K mg ad) (F : ∀ i, FG P w G.K mg base k (ad i) (spT G (t i)))
    {f : Addr} {cdv : Value} {A : Around} {outer : List PySem.Env} {s : Shared} {H : Hp} {E : XK} {W : WX} (ok : Okk G (X1 P w G.K mg base f cdv A outer s H E) k) (tk : Takes (X1 P w G.K mg base f cdv A outer s H E) W)
    (hp : PassesOwn (model P w) (X1 P w G.K mg base f cdv A outer s H E).A (X1 P w G.K mg base f cdv A outer s H E).env (X1 P w G.K mg base f cdv A outer s H E).xe) :
    PSsv G (X1 P w G.K mg base f cdv A outer s H E) W (d1 t) (defBody st1) :=
  sv_one (sv_ret (ev_if (tv_cmp (op_eqM ok.u1) (ds_eq ok.hK false) (ev_var (i := 1)) (ev_int) (hm := by with_unfolding_all rfl)) (ev_tup (lv_nil)) (ev_ix ok.hK ok.u2 (ev_var (i := 0)) (ev_bin op_sub ds_sub (ev_var (i := 1)) (ev_int)))))
theorem sc2 : FnScope nm2 ["m", "b"] (defScope st2) := ⟨rfl, rfl, rfl, by decide +kernel, rfl, by decide +kernel, by decide +kernel⟩
abbrev X2 (P : Program) (w : World) (K : PySem.W.Frag) (mg : Str → Option Value) (base : Heap) (f : Addr) (cdv : Value) (A : Around) (outer : List PySem.Env) (s : Shared) (H : Hp) (E : XK) : Cx := cxOf (L2.CX P w) P w K mg base nm2 "stretches" (defScope st2) f cdv A outer s H E
set_option maxHeartbeats 4000000 in
theorem dv2 {G : Gd} {P : Program} {w : World} {mg : Str → Option Value} {base : Heap} {k : Nat} {ad : Nat → Addr} {t : Tab} (Z : Wd G.K mg ad) (F : ∀ i, FG P w G.K mg base k (ad i) (spT G (t i)))
    {f : Addr} {cdv : Value} {A : Around} {outer : List PySem.Env} {s : Shared} {H : Hp} {E : XK} {W : WX} (ok : Okk G (X2 P w G.K mg base f cdv A outer s H E) k) (tk : Takes (X2 P w G.K mg base f cdv A outer s H E) W)
    (hp : PassesOwn (model P w) (X2 P w G.K mg base f cdv A outer s H E).A (X2 P w G.K mg base f cdv A outer s H E).env (X2 P w G.K mg base f cdv A outer s H E).xe) :
    PSsv G (X2 P w G.K mg base f cdv A outer s H E) W (d2 t) (defBody st2) :=
  sv_one (sv_ret (ev_lc (own := [("begin", 2)]) ok.calm ok.nd (iv_range3 (by rfl) Z.b_range (lv_cons (ev_int) (lv_cons (ev_var (i := 0)) (lv_cons (ev_var (i := 1)) (lv_nil))))) (blkOk_by (N := nm2) (sc := defScope st2) (by decide +kernel)) (fun _ _ _ _ _ => gv_name (i := 2) ok.nd) (fun _ _ _ _ _ => tsv_nil) (fun _ _ _ _ _ => ev_tup (lv_cons (ev_var (i := 2)) (lv_cons (ev_callB (cr_minV ok.calm) (cs_min ok.hK) (by rfl) Z.b_min boot_bi_min (lv_cons (ev_bin op_addV (ds_add ok.hK) (ev_var (i := 2)) (ev_var (i := 1))) (lv_cons (ev_var (i := 0)) (lv_nil)))) (lv_nil)))) (by simp [Tgt.slots, slotsL])))
theorem sc3 : FnScope nm3 ["shape", "parts"] (defScope st3) := ⟨rfl, rfl, rfl, by decide +kernel, rfl, by decide +kernel, by decide +kernel⟩
abbrev X3 (P : Program) (w : World) (K : PySem.W.Frag) (mg : Str → Option Value) (base : Heap) (f : Addr) (cdv : Value) (A : Around) (outer : List PySem.Env) (s : Shared) (H : Hp) (E : XK) : Cx := cxOf (L2.CX P w) P w K mg base nm3 "filled" (defScope st3) f cdv A outer s H E
set_option maxHeartbeats 4000000 in
theorem dv3 {G : Gd} {P : Program} {w : World} {mg : Str → Option Value} {base : Heap} {k : Nat} {ad : Nat → Addr} {t : Tab} (Z : Wd G.K mg ad) (F : ∀ i, FG P w G.K mg base k (ad i) (spT G (t i)))
    {f : Addr} {cdv : Value} {A : Around} {outer : List PySem.Env} {s : Shared} {H : Hp} {E : XK} {W : WX} (ok : Okk G (X3 P w G.K mg base f cdv A outer s H E) k) (tk : Takes (X3 P w G.K mg base f cdv A outer s H E) W)
    (hp : PassesOwn (model P w) (X3 P w G.K mg base f cdv A outer s H E).A (X3 P w G.K mg base f cdv A outer s H E).env (X3 P w G.K mg base f cdv A outer s H E).xe) :
    PSsv G (X3 P w G.K mg base f cdv A outer s H E) W (d3 t) (defBody st3) :=
  sv_cons (sv_if (tv_cmp (op_eqM ok.u1) (ds_eq ok.hK false) (ev_var (i := 0)) (ev_tup (lv_nil)) (hm := by with_unfolding_all rfl)) (sv_one (sv_ret (ev_ml ok.hK PySem.F.slot_list_pop PySem.F.type_list_pop mt_popA ms_pop (ev_var (i := 1)) (lv_cons (ev_int) (lv_nil))))) (sv_nil))
    (sv_cons (sv_set (i := 2) ok.nd (ev_call (i := 3) (F 3) ok.room ok.gu tk Z.m3 Z.k3 (lv_cons (ev_ix ok.hK ok.u2 (ev_var (i := 0)) (ev_int)) (lv_cons (ev_var (i := 1)) (lv_nil)))))
    (sv_one (sv_ret (ev_tup (lv_cons (ev_var (i := 2)) (lv_cons (ev_call (i := 3) (F 3) ok.room ok.gu tk Z.m3 Z.k3 (lv_cons (ev_ix ok.hK ok.u2 (ev_var (i := 0)) (ev_int)) (lv_cons (ev_var (i := 1)) (lv_nil)))) (lv_nil)))))))
theorem sc4 : FnScope nm4 ["s", "t", "m"] (defScope st4) := ⟨rfl, rfl, rfl, by decide +kernel, rfl, by decide +kernel, by decide +kernel⟩
abbrev X4 (P : Program) (w : World) (K : PySem.W.Frag) (mg : Str → Option Value) (base : Heap) (f : Addr) (cdv : Value) (A : Around) (outer : List PySem.Env) (s : Shared) (H : Hp) (E : XK) : Cx := cxOf (L2.CX P w) P w K mg base nm4 "glued_entry" (defScope st4) f cdv A outer s H E
set_option maxHeartbeats 4000000 in
theorem dv4 {G : Gd} {P : Program} {w : World} {mg : Str → Option Value} {base : Heap} {k : Nat} {ad : Nat → Addr} {t : Tab} (Z : Wd G.K mg ad) (F : ∀ i, FG P w G.K mg base k (ad i) (spT G (t i)))
    {f : Addr} {cdv : Value} {A : Around} {outer : List PySem.Env} {s : Shared} {H : Hp} {E : XK} {W : WX} (ok : Okk G (X4 P w G.K mg base f cdv A outer s H E) k) (tk : Takes (X4 P w G.K mg base f cdv A outer s H E) W)
    (hp : PassesOwn (model P w) (X4 P w G.K mg base f cdv A outer s H E).A (X4 P w G.K mg base f cdv A outer s H E).env (X4 P w G.K mg base f cdv A outer s H E).xe) :
    PSsv G (X4 P w G.K mg base f cdv A outer s H E) W (d4 t) (defBody st4) :=
  sv_cons (sv_setLc (i := 3) (own := [("begin", 4), ("end", 5)]) ok.calm ok.nd (iv_val ok.hK (ev_call (i := 2) (F 2) ok.room ok.gu tk Z.m2 Z.k2 (lv_cons (ev_var (i := 2)) (lv_cons (ev_call (i := 0) (F 0) ok.room ok.gu tk Z.m0 Z.k0 (lv_cons (ev_var (i := 0)) (lv_nil))) (lv_nil))))) (blkOk_by (N := nm4) (sc := defScope st4) (by decide +kernel)) (fun _ _ _ _ _ => gv_tup ok.hK ok.calm (gsv_cons (gv_name (i := 4) ok.nd) (gsv_cons (gv_name (i := 5) ok.nd) (gsv_nil))) rfl) (fun _ _ _ _ _ => tsv_nil) (fun _ _ _ _ _ => ev_call (i := 1) (F 1) ok.room ok.gu takes_no Z.m1 Z.k1 (lv_cons (ev_var (i := 0)) (lv_cons (ev_bin op_sub ds_sub (ev_var (i := 5)) (ev_var (i := 4))) (lv_nil)))) (by simp [Tgt.slots, slotsL]))
    (sv_one (sv_ret (ev_call (i := 3) (F 3) ok.room ok.gu tk Z.m3 Z.k3 (lv_cons (ev_call (i := 1) (F 1) ok.room ok.gu tk Z.m1 Z.k1 (lv_cons (ev_var (i := 1)) (lv_cons (ev_callB cr_lenV (cs_len ok.hK) (by rfl) Z.b_len boot_bi_len (lv_cons (ev_var (i := 3)) (lv_nil))) (lv_nil)))) (lv_cons (ev_var (i := 3)) (lv_nil))))))
theorem sc5 : FnScope nm5 ["s", "t"] (defScope st5) := ⟨rfl, rfl, rfl, by decide +kernel, rfl, by decide +kernel, by decide +kernel⟩
abbrev X5 (P : Program) (w : World) (K : PySem.W.Frag) (mg : Str → Option Value) (base : Heap) (f : Addr) (cdv : Value) (A : Around) (outer : List PySem.Env) (s : Shared) (H : Hp) (E : XK) : Cx := cxOf (L2.CX P w) P w K mg base nm5 "glue" (defScope st5) f cdv A outer s H E
set_option maxHeartbeats 4000000 in
theorem dv5 {G : Gd} {P : Program} {w : World} {mg : Str → Option Value} {base : Heap} {k : Nat} {ad : Nat → Addr} {t : Tab} (Z : Wd G.K mg ad) (F : ∀ i, FG P w G.K mg base k (ad i) (spT G (t i)))
    {f : Addr} {cdv : Value} {A : Around} {outer : List PySem.Env} {s : Shared} {H : Hp} {E : XK} {W : WX} (ok : Okk G (X5 P w G.K mg base f cdv A outer s H E) k) (tk : Takes (X5 P w G.K mg base f cdv A outer s H E) W)
    (hp : PassesOwn (model P w) (X5 P w G.K mg base f cdv A outer s H E).A (X5 P w G.K mg base f cdv A outer s H E).env (X5 P w G.K mg base f cdv A outer s H E).xe) :
    PSsv G (X5 P w G.K mg base f cdv A outer s H E) W (d5 t) (defBody st5) :=
  sv_one (sv_ret (ev_callTy cr_tupleV (cs_tuple ok.hK) (by rfl) Z.b_tuple boot_ty_tuple (lv_cons (ev_lc (own := [("m", 2)]) ok.calm ok.nd (iv_range2 (by rfl) Z.b_range (lv_cons (ev_int) (lv_cons (ev_bin op_addV (ds_add ok.hK) (ev_bin op_mulA (ds_mulA ok.hK) (ev_call (i := 0) (F 0) ok.room ok.gu tk Z.m0 Z.k0 (lv_cons (ev_var (i := 0)) (lv_nil))) (ev_call (i := 0) (F 0) ok.room ok.gu tk Z.m0 Z.k0 (lv_cons (ev_var (i := 1)) (lv_nil)))) (ev_int)) (lv_nil)))) (blkOk_by (N := nm5) (sc := defScope st5) (by decide +kernel)) (fun _ _ _ _ _ => gv_name (i := 2) ok.nd) (fun _ _ _ _ _ => tsv_nil) (fun _ _ _ _ _ => ev_call (i := 4) (F 4) ok.room ok.gu takes_no Z.m4 Z.k4 (lv_cons (ev_var (i := 0)) (lv_cons (ev_var (i := 1)) (lv_cons (ev_var (i := 2)) (lv_nil))))) (by simp [Tgt.slots, slotsL])) (lv_nil))))
theorem sc6 : FnScope nm6 ["tables"] (defScope st6) := ⟨rfl, rfl, rfl, by decide +kernel, rfl, by decide +kernel, by decide +kernel⟩
abbrev X6 (P : Program) (w : World) (K : PySem.W.Frag) (mg : Str → Option Value) (base : Heap) (f : Addr) (cdv : Value) (A : Around) (outer : List PySem.Env) (s : Shared) (H : Hp) (E : XK) : Cx := cxOf (L2.CX P w) P w K mg base nm6 "glued" (defScope st6) f cdv A outer s H E
set_option maxHeartbeats 4000000 in
theorem dv6 {G : Gd} {P : Program} {w : World} {mg : Str → Option Value} {base : Heap} {k : Nat} {ad : Nat → Addr} {t : Tab} (Z : Wd G.K mg ad) (F : ∀ i, FG P w G.K mg base k (ad i) (spT G (t i)))
    {f : Addr} {cdv : Value} {A : Around} {outer : List PySem.Env} {s : Shared} {H : Hp} {E : XK} {W : WX} (ok : Okk G (X6 P w G.K mg base f cdv A outer s H E) k) (tk : Takes (X6 P w G.K mg base f cdv A outer s H E) W)
    (hp : PassesOwn (model P w) (X6 P w G.K mg base f cdv A outer s H E).A (X6 P w G.K mg base f cdv A outer s H E).env (X6 P w G.K mg base f cdv A outer s H E).xe) :
    PSsv G (X6 P w G.K mg base f cdv A outer s H E) W (d6 t) (defBody st6) :=
  sv_cons (sv_set (i := 1) ok.nd (ev_ix ok.hK ok.u2 (ev_var (i := 0)) (ev_int)))
    (sv_cons (sv_for hp ok.calm (iv_val ok.hK (ev_cut ok.hK (ev_var (i := 0)) (ov_some (ev_int)) ov_none)) (gv_name (i := 2) ok.nd) (sv_one (sv_set (i := 1) ok.nd (ev_call (i := 5) (F 5) ok.room ok.gu tk Z.m5 Z.k5 (lv_cons (ev_var (i := 1)) (lv_cons (ev_var (i := 2)) (lv_nil)))))))
    (sv_one (sv_ret (ev_var (i := 1)))))
theorem sc7 : FnScope nm7 ["_law_script"] (defScope st7) := ⟨rfl, rfl, rfl, by decide +kernel, rfl, by decide +kernel, by decide +kernel⟩
abbrev X7 (P : Program) (w : World) (K : PySem.W.Frag) (mg : Str → Option Value) (base : Heap) (f : Addr) (cdv : Value) (A : Around) (outer : List PySem.Env) (s : Shared) (H : Hp) (E : XK) : Cx := cxOf (L2.CX P w) P w K mg base nm7 "_law_source" (defScope st7) f cdv A outer s H E
set_option maxHeartbeats 4000000 in
theorem dv7 {G : Gd} {P : Program} {w : World} {mg : Str → Option Value} {base : Heap} {k : Nat} {ad : Nat → Addr} {t : Tab} (Z : Wd G.K mg ad) (F : ∀ i, FG P w G.K mg base k (ad i) (spT G (t i)))
    {f : Addr} {cdv : Value} {A : Around} {outer : List PySem.Env} {s : Shared} {H : Hp} {E : XK} {W : WX} (ok : Okk G (X7 P w G.K mg base f cdv A outer s H E) k) (tk : Takes (X7 P w G.K mg base f cdv A outer s H E) W)
    (hp : PassesOwn (model P w) (X7 P w G.K mg base f cdv A outer s H E).A (X7 P w G.K mg base f cdv A outer s H E).env (X7 P w G.K mg base f cdv A outer s H E).xe) :
    PSsv G (X7 P w G.K mg base f cdv A outer s H E) W (d7 t) (defBody st7) :=
  sv_cons (sv_set (i := 1) ok.nd (ev_int))
    (sv_cons (sv_for hp ok.calm (iv_val ok.hK (ev_var (i := 0))) (gv_name (i := 2) ok.nd) (sv_one (sv_set (i := 1) ok.nd (ev_bin op_mod ds_mod (ev_callTy cr_intV cs_int (by rfl) Z.b_int boot_ty_int (lv_cons (ev_bin op_addV (ds_add ok.hK) (ev_bin op_addV (ds_add ok.hK) (ev_bin op_mulA (ds_mulA ok.hK) (ev_var (i := 1)) (ev_int)) (ev_bin op_mulA (ds_mulA ok.hK) (ev_var (i := 2)) (ev_int))) (ev_int)) (lv_nil))) (ev_int)))))
    (sv_one (sv_ret (ev_dict (pv_cons (ev_str) (ev_rev ok.hK (ev_lc (own := [("_law_cell", 2)]) ok.calm ok.nd (iv_val ok.hK (ev_var (i := 0))) (blkOk_by (N := nm7) (sc := defScope st7) (by decide +kernel)) (fun _ _ _ _ _ => gv_name (i := 2) ok.nd) (fun _ _ _ _ _ => tsv_nil) (fun _ _ _ _ _ => ev_callB cr_absV cs_abs (by rfl) Z.b_abs boot_bi_abs (lv_cons (ev_var (i := 2)) (lv_nil))) (by simp [Tgt.slots, slotsL]))) (pv_cons (ev_str) (ev_int) (pv_cons (ev_str) (ev_var (i := 1)) (pv_cons (ev_str) (ev_int) (pv_nil)))))))))
theorem sc8 : FnScope nm8 ["_law_source_here", "_law_many"] (defScope st8) := ⟨rfl, rfl, rfl, by decide +kernel, rfl, by decide +kernel, by decide +kernel⟩
abbrev X8 (P : Program) (w : World) (K : PySem.W.Frag) (mg : Str → Option Value) (base : Heap) (f : Addr) (cdv : Value) (A : Around) (outer : List PySem.Env) (s : Shared) (H : Hp) (E : XK) : Cx := cxOf (L2.CX P w) P w K mg base nm8 "_law_pick" (defScope st8) f cdv A outer s H E
set_option maxHeartbeats 4000000 in
theorem dv8 {G : Gd} {P : Program} {w : World} {mg : Str → Option Value} {base : Heap} {k : Nat} {ad : Nat → Addr} {t : Tab} (Z : Wd G.K mg ad) (F : ∀ i, FG P w G.K mg base k (ad i) (spT G (t i)))
    {f : Addr} {cdv : Value} {A : Around} {outer : List PySem.Env} {s : Shared} {H : Hp} {E : XK} {W : WX} (ok : Okk G (X8 P w G.K mg base f cdv A outer s H E) k) (tk : Takes (X8 P w G.K mg base f cdv A outer s H E) W)
    (hp : PassesOwn (model P w) (X8 P w G.K mg base f cdv A outer s H E).A (X8 P w G.K mg base f cdv A outer s H E).env (X8 P w G.K mg base f cdv A outer s H E).xe) :
    PSsv G (X8 P w G.K mg base f cdv A outer s H E) W (d8 t) (defBody st8) :=
  sv_cons (sv_while (n := FUEL) hp (tv_bool (wv_and (tv_cmp op_gt (ds_cmp _) (ev_var (i := 1)) (ev_int) (hm := by with_unfolding_all rfl)) (wv_and (tv_cmp op_lt (ds_cmp _) (ev_ix ok.hK ok.u2 (ev_var (i := 0)) (ev_str)) (ev_int) (hm := by with_unfolding_all rfl)) (wv_and1 (tv_cmp op_gt (ds_cmp _) (ev_callB cr_lenV (cs_len ok.hK) (by rfl) Z.b_len boot_bi_len (lv_cons (ev_ix ok.hK ok.u2 (ev_var (i := 0)) (ev_str)) (lv_nil))) (ev_int) (hm := by with_unfolding_all rfl)))))) (sv_one (sv_setIx ok.u2 (ev_ml0 ok.hK PySem.F.slot_list_pop PySem.F.type_list_pop mt_popA ms_pop (ev_ix ok.hK ok.u2 (ev_var (i := 0)) (ev_str))) (ev_var (i := 0)) (ev_str))))
    (sv_cons (sv_set (i := 2) ok.nd (ev_ix ok.hK ok.u2 (ev_var (i := 0)) (ev_str)))
    (sv_cons (sv_if (tv_bool (wv_or (tv_cmp op_lt (ds_cmp _) (ev_var (i := 1)) (ev_int) (hm := by with_unfolding_all rfl)) (wv_or1 (tv_cmp op_gt (ds_cmp _) (ev_var (i := 2)) (ev_int) (hm := by with_unfolding_all rfl))))) (sv_cons (sv_setIx ok.u2 (ev_bin op_fdivW ds_fdiv (ev_var (i := 2)) (ev_callB (cr_maxV ok.calm) (cs_max ok.hK) (by rfl) Z.b_max boot_bi_max (lv_cons (ev_int) (lv_cons (ev_var (i := 1)) (lv_nil))))) (ev_var (i := 0)) (ev_str))
    (sv_one (sv_ret (ev_bin op_mod ds_mod (ev_callTy cr_intV cs_int (by rfl) Z.b_int boot_ty_int (lv_cons (ev_var (i := 2)) (lv_nil))) (ev_callB (cr_maxV ok.calm) (cs_max ok.hK) (by rfl) Z.b_max boot_bi_max (lv_cons (ev_int) (lv_cons (ev_var (i := 1)) (lv_nil)))))))) (sv_nil))
    (sv_cons (sv_setIx ok.u2 (ev_bin op_addV (ds_add ok.hK) (ev_ix ok.hK ok.u2 (ev_var (i := 0)) (ev_str)) (ev_int)) (ev_var (i := 0)) (ev_str))
    (sv_cons (sv_set (i := 3) ok.nd (ev_bin op_mod ds_mod (ev_callTy cr_intV cs_int (by rfl) Z.b_int boot_ty_int (lv_cons (ev_bin op_addV (ds_add ok.hK) (ev_ix ok.hK ok.u2 (ev_var (i := 0)) (ev_str)) (ev_bin op_mulA (ds_mulA ok.hK) (ev_ix ok.hK ok.u2 (ev_var (i := 0)) (ev_str)) (ev_int))) (lv_nil))) (ev_int)))
    (sv_cons (sv_set (i := 3) ok.nd (ev_bin op_mod ds_mod (ev_callTy cr_intV cs_int (by rfl) Z.b_int boot_ty_int (lv_cons (ev_bin op_addV (ds_add ok.hK) (ev_bin op_mulA (ds_mulA ok.hK) (ev_var (i := 3)) (ev_var (i := 3))) (ev_bin op_mulA (ds_mulA ok.hK) (ev_ix ok.hK ok.u2 (ev_var (i := 0)) (ev_str)) (ev_int))) (lv_nil))) (ev_int)))
    (sv_cons (sv_setIx ok.u2 (ev_var (i := 3)) (ev_var (i := 0)) (ev_str))
    (sv_one (sv_ret (ev_bin op_mod ds_mod (ev_callTy cr_intV cs_int (by rfl) Z.b_int boot_ty_int (lv_cons (ev_bin op_fdivW ds_fdiv (ev_var (i := 3)) (ev_int)) (lv_nil))) (ev_var (i := 1)))))))))))
theorem sc9 : FnScope nm9 ["_law_source_here", "_law_some"] (defScope st9) := ⟨rfl, rfl, rfl, by decide +kernel, rfl, by decide +kernel, by decide +kernel⟩
abbrev X9 (P : Program) (w : World) (K : PySem.W.Frag) (mg : Str → Option Value) (base : Heap) (f : Addr) (cdv : Value) (A : Around) (outer : List PySem.Env) (s : Shared) (H : Hp) (E : XK) : Cx := cxOf (L2.CX P w) P w K mg base nm9 "_law_of" (defScope st9) f cdv A outer s H E
set_option maxHeartbeats 4000000 in
theorem dv9 {G : Gd} {P : Program} {w : World} {mg : Str → Option Value} {base : Heap} {k : Nat} {ad : Nat → Addr} {t : Tab} (Z : Wd G.K mg ad) (F : ∀ i, FG P w G.K mg base k (ad i) (spT G (t i)))
    {f : Addr} {cdv : Value} {A : Around} {outer : List PySem.Env} {s : Shared} {H : Hp} {E : XK} {W : WX} (ok : Okk G (X9 P w G.K mg base f cdv A outer s H E) k) (tk : Takes (X9 P w G.K mg base f cdv A outer s H E) W)
    (hp : PassesOwn (model P w) (X9 P w G.K mg base f cdv A outer s H E).A (X9 P w G.K mg base f cdv A outer s H E).env (X9 P w G.K mg base f cdv A outer s H E).xe) :
    PSsv G (X9 P w G.K mg base f cdv A outer s H E) W (d9 t) (defBody st9) :=
  sv_one (sv_ret (ev_ix ok.hK ok.u2 (ev_var (i := 1)) (ev_call (i := 8) (F 8) ok.room ok.gu tk Z.m8 Z.k8 (lv_cons (ev_var (i := 0)) (lv_cons (ev_callB cr_lenV (cs_len ok.hK) (by rfl) Z.b_len boot_bi_len (lv_cons (ev_var (i := 1)) (lv_nil))) (lv_nil))))))
theorem sc10 : FnScope nm10 ["_law_source_here", "_law_size"] (defScope st10) := ⟨rfl, rfl, rfl, by decide +kernel, rfl, by decide +kernel, by decide +kernel⟩
abbrev X10 (P : Program) (w : World) (K : PySem.W.Frag) (mg : Str → Option Value) (base : Heap) (f : Addr) (cdv : Value) (A : Around) (outer : List PySem.Env) (s : Shared) (H : Hp) (E : XK) : Cx := cxOf (L2.CX P w) P w K mg base nm10 "_law_shape" (defScope st10) f cdv A outer s H E
set_option maxHeartbeats 4000000 in
theorem dv10 {G : Gd} {P : Program} {w : World} {mg : Str → Option Value} {base : Heap} {k : Nat} {ad : Nat → Addr} {t : Tab} (Z : Wd G.K mg ad) (F : ∀ i, FG P w G.K mg base k (ad i) (spT G (t i)))
    {f : Addr} {cdv : Value} {A : Around} {outer : List PySem.Env} {s : Shared} {H : Hp} {E : XK} {W : WX} (ok : Okk G (X10 P w G.K mg base f cdv A outer s H E) k) (tk : Takes (X10 P w G.K mg base f cdv A outer s H E) W)
    (hp : PassesOwn (model P w) (X10 P w G.K mg base f cdv A outer s H E).A (X10 P w G.K mg base f cdv A outer s H E).env (X10 P w G.K mg base f cdv A outer s H E).xe) :
    PSsv G (X10 P w G.K mg base f cdv A outer s H E) W (d10 t) (defBody st10) :=
  sv_cons (sv_if (tv_cmp (op_eqM ok.u1) (ds_eq ok.hK false) (ev_var (i := 1)) (ev_int) (hm := by with_unfolding_all rfl)) (sv_one (sv_ret (ev_tup (lv_nil)))) (sv_nil))
    (sv_cons (sv_set (i := 2) ok.nd (ev_call (i := 9) (F 9) ok.room ok.gu tk Z.m9 Z.k9 (lv_cons (ev_var (i := 0)) (lv_cons (ev_lst (lv_cons (ev_bin op_addV (ds_add ok.hK) (ev_int) (ev_call (i := 8) (F 8) ok.room ok.gu tk Z.m8 Z.k8 (lv_cons (ev_var (i := 0)) (lv_cons (ev_bin op_sub ds_sub (ev_var (i := 1)) (ev_int)) (lv_nil))))) (lv_cons (ev_bin op_addV (ds_add ok.hK) (ev_int) (ev_call (i := 8) (F 8) ok.room ok.gu tk Z.m8 Z.k8 (lv_cons (ev_var (i := 0)) (lv_cons (ev_bin op_sub ds_sub (ev_var (i := 1)) (ev_int)) (lv_nil))))) (lv_cons (ev_bin op_fdivW ds_fdiv (ev_var (i := 1)) (ev_int)) (lv_cons (ev_int) (lv_cons (ev_bin op_sub ds_sub (ev_var (i := 1)) (ev_int)) (lv_nil))))))) (lv_nil)))))
    (sv_one (sv_ret (ev_tup (lv_cons (ev_call (i := 10) (F 10) ok.room ok.gu tk Z.m10 Z.k10 (lv_cons (ev_var (i := 0)) (lv_cons (ev_var (i := 2)) (lv_nil)))) (lv_cons (ev_call (i := 10) (F 10) ok.room ok.gu tk Z.m10 Z.k10 (lv_cons (ev_var (i := 0)) (lv_cons (ev_bin op_sub ds_sub (ev_var (i := 1)) (ev_var (i := 2))) (lv_nil)))) (lv_nil)))))))
theorem sc11 : FnScope nm11 ["_law_source_here", "_law_size"] (defScope st11) := ⟨rfl, rfl, rfl, by decide +kernel, rfl, by decide +kernel, by decide +kernel⟩
abbrev X11 (P : Program) (w : World) (K : PySem.W.Frag) (mg : Str → Option Value) (base : Heap) (f : Addr) (cdv : Value) (A : Around) (outer : List PySem.Env) (s : Shared) (H : Hp) (E : XK) : Cx := cxOf (L2.CX P w) P w K mg base nm11 "_law_table" (defScope st11) f cdv A outer s H E
set_option maxHeartbeats 4000000 in
theorem dv11 {G : Gd} {P : Program} {w : World} {mg : Str → Option Value} {base : Heap} {k : Nat} {ad : Nat → Addr} {t : Tab} (Z : Wd G.K mg ad) (F : ∀ i, FG P w G.K mg base k (ad i) (spT G (t i)))
    {f : Addr} {cdv : Value} {A : Around} {outer : List PySem.Env} {s : Shared} {H : Hp} {E : XK} {W : WX} (ok : Okk G (X11 P w G.K mg base f cdv A outer s H E) k) (tk : Takes (X11 P w G.K mg base f cdv A outer s H E) W)
    (hp : PassesOwn (model P w) (X11 P w G.K mg base f cdv A outer s H E).A (X11 P w G.K mg base f cdv A outer s H E).env (X11 P w G.K mg base f cdv A outer s H E).xe) :
    PSsv G (X11 P w G.K mg base f cdv A outer s H E) W (d11 t) (defBody st11) :=
  sv_one (sv_ret (ev_callTy cr_tupleV (cs_tuple ok.hK) (by rfl) Z.b_tuple boot_ty_tuple (lv_cons (ev_lc (own := [("_law_m", 2)]) ok.calm ok.nd (iv_range2 (by rfl) Z.b_range (lv_cons (ev_int) (lv_cons (ev_bin op_addV (ds_add ok.hK) (ev_var (i := 1)) (ev_int)) (lv_nil)))) (blkOk_by (N := nm11) (sc := defScope st11) (by decide +kernel)) (fun _ _ _ _ _ => gv_name (i := 2) ok.nd) (fun _ _ _ _ _ => tsv_nil) (fun _ _ _ _ _ => ev_call (i := 10) (F 10) ok.room ok.gu takes_no Z.m10 Z.k10 (lv_cons (ev_var (i := 0)) (lv_cons (ev_var (i := 2)) (lv_nil)))) (by simp [Tgt.slots, slotsL])) (lv_nil))))
theorem sc12 : FnScope nm12 ["_law_source_here", "_law_many", "_law_most"] (defScope st12) := ⟨rfl, rfl, rfl, by decide +kernel, rfl, by decide +kernel, by decide +kernel⟩
abbrev X12 (P : Program) (w : World) (K : PySem.W.Frag) (mg : Str → Option Value) (base : Heap) (f : Addr) (cdv : Value) (A : Around) (outer : List PySem.Env) (s : Shared) (H : Hp) (E : XK) : Cx := cxOf (L2.CX P w) P w K mg base nm12 "_law_sized" (defScope st12) f cdv A outer s H E
set_option maxHeartbeats 4000000 in
theorem dv12 {G : Gd} {P : Program} {w : World} {mg : Str → Option Value} {base : Heap} {k : Nat} {ad : Nat → Addr} {t : Tab} (Z : Wd G.K mg ad) (F : ∀ i, FG P w G.K mg base k (ad i) (spT G (t i)))
    {f : Addr} {cdv : Value} {A : Around} {outer : List PySem.Env} {s : Shared} {H : Hp} {E : XK} {W : WX} (ok : Okk G (X12 P w G.K mg base f cdv A outer s H E) k) (tk : Takes (X12 P w G.K mg base f cdv A outer s H E) W)
    (hp : PassesOwn (model P w) (X12 P w G.K mg base f cdv A outer s H E).A (X12 P w G.K mg base f cdv A outer s H E).env (X12 P w G.K mg base f cdv A outer s H E).xe) :
    PSsv G (X12 P w G.K mg base f cdv A outer s H E) W (d12 t) (defBody st12) :=
  sv_cons (sv_par (i := 3) (j := 4) ok.calm ok.nd (lv_cons (ev_lst (lv_nil)) (lv_cons (ev_var (i := 2)) (lv_nil))))
    (sv_cons (sv_for hp ok.calm (iv_range1 (by rfl) Z.b_range (lv_cons (ev_var (i := 1)) (lv_nil))) (gv_name (i := 5) ok.nd) (sv_one (sv_if (tv_cmp op_gt (ds_cmp _) (ev_var (i := 4)) (ev_int) (hm := by with_unfolding_all rfl)) (sv_cons (sv_expr (ev_ml ok.hK PySem.F.slot_list_append PySem.F.type_list_append mt_append ms_append (ev_var (i := 3)) (lv_cons (ev_bin op_addV (ds_add ok.hK) (ev_int) (ev_call (i := 8) (F 8) ok.room ok.gu tk Z.m8 Z.k8 (lv_cons (ev_var (i := 0)) (lv_cons (ev_bin op_sub ds_sub (ev_callB (cr_minV ok.calm) (cs_min ok.hK) (by rfl) Z.b_min boot_bi_min (lv_cons (ev_int) (lv_cons (ev_var (i := 4)) (lv_nil)))) (ev_int)) (lv_nil))))) (lv_nil))))
    (sv_one (sv_set (i := 4) ok.nd (ev_bin op_fdivW ds_fdiv (ev_var (i := 4)) (ev_ix ok.hK ok.u2 (ev_var (i := 3)) (ev_un un_neg ds_neg (ev_int))))))) (sv_nil))))
    (sv_one (sv_ret (ev_var (i := 3)))))
theorem sc13 : FnScope nm13 ["_law_script"] (defScope st13) := ⟨rfl, rfl, rfl, by decide +kernel, rfl, by decide +kernel, by decide +kernel⟩
abbrev X13 (P : Program) (w : World) (K : PySem.W.Frag) (mg : Str → Option Value) (base : Heap) (f : Addr) (cdv : Value) (A : Around) (outer : List PySem.Env) (s : Shared) (H : Hp) (E : XK) : Cx := cxOf (L2.CX P w) P w K mg base nm13 "law" (defScope st13) f cdv A outer s H E
set_option maxHeartbeats 4000000 in
theorem dv13 {G : Gd} {P : Program} {w : World} {mg : Str → Option Value} {base : Heap} {k : Nat} {ad : Nat → Addr} {t : Tab} (Z : Wd G.K mg ad) (F : ∀ i, FG P w G.K mg base k (ad i) (spT G (t i)))
    {f : Addr} {cdv : Value} {A : Around} {outer : List PySem.Env} {s : Shared} {H : Hp} {E : XK} {W : WX} (ok : Okk G (X13 P w G.K mg base f cdv A outer s H E) k) (tk : Takes (X13 P w G.K mg base f cdv A outer s H E) W)
    (hp : PassesOwn (model P w) (X13 P w G.K mg base f cdv A outer s H E).A (X13 P w G.K mg base f cdv A outer s H E).env (X13 P w G.K mg base f cdv A outer s H E).xe) :
    PSsv G (X13 P w G.K mg base f cdv A outer s H E) W (d13 t) (defBody st13) :=
  sv_cons (sv_set (i := 1) ok.nd (ev_call (i := 7) (F 7) ok.room ok.gu tk Z.m7 Z.k7 (lv_cons (ev_var (i := 0)) (lv_nil))))
    (sv_cons (sv_for hp ok.calm (iv_range1 (by rfl) Z.b_range (lv_cons (ev_int) (lv_nil))) (gv_name (i := 2) ok.nd) (sv_cons (sv_setLc (i := 3) (own := [("_law_size", 5)]) ok.calm ok.nd (iv_val ok.hK (ev_call (i := 12) (F 12) ok.room ok.gu tk Z.m12 Z.k12 (lv_cons (ev_var (i := 1)) (lv_cons (ev_int) (lv_cons (ev_int) (lv_nil)))))) (blkOk_by (N := nm13) (sc := defScope st13) (by decide +kernel)) (fun _ _ _ _ _ => gv_name (i := 5) ok.nd) (fun _ _ _ _ _ => tsv_nil) (fun _ _ _ _ _ => ev_call (i := 11) (F 11) ok.room ok.gu takes_no Z.m11 Z.k11 (lv_cons (ev_var (i := 1)) (lv_cons (ev_var (i := 5)) (lv_nil)))) (by simp [Tgt.slots, slotsL]))
    (sv_cons (sv_par (i := 4) (j := 5) ok.calm ok.nd (lv_cons (ev_call (i := 6) (F 6) ok.room ok.gu tk Z.m6 Z.k6 (lv_cons (ev_var (i := 3)) (lv_nil))) (lv_cons (ev_int) (lv_nil))))
    (sv_cons (sv_for hp ok.calm (iv_val ok.hK (ev_var (i := 3))) (gv_name (i := 6) ok.nd) (sv_one (sv_set (i := 5) ok.nd (ev_bin op_mulA (ds_mulA ok.hK) (ev_var (i := 5)) (ev_call (i := 0) (F 0) ok.room ok.gu tk Z.m0 Z.k0 (lv_cons (ev_var (i := 6)) (lv_nil)))))))
    (sv_cons (sv_if (tv_bool (wv_or (tv_cmp (op_neM ok.u1) (ds_eq ok.hK true) (ev_call (i := 0) (F 0) ok.room ok.gu tk Z.m0 Z.k0 (lv_cons (ev_var (i := 4)) (lv_nil))) (ev_var (i := 5)) (hm := by with_unfolding_all rfl)) (wv_or1 (tv_cmp (op_neM ok.u1) (ds_eq ok.hK true) (ev_callB cr_lenV (cs_len ok.hK) (by rfl) Z.b_len boot_bi_len (lv_cons (ev_var (i := 4)) (lv_nil))) (ev_bin op_sub ds_sub (ev_var (i := 5)) (ev_int)) (hm := by with_unfolding_all rfl))))) (sv_one (sv_ret (ev_bl))) (sv_nil))
    (sv_cons (sv_for hp ok.calm (iv_range2 (by rfl) Z.b_range (lv_cons (ev_int) (lv_cons (ev_callB cr_lenV (cs_len ok.hK) (by rfl) Z.b_len boot_bi_len (lv_cons (ev_var (i := 3)) (lv_nil))) (lv_nil)))) (gv_name (i := 7) ok.nd) (sv_one (sv_if (tv_cmp (op_neM ok.u1) (ds_eq ok.hK true) (ev_call (i := 5) (F 5) ok.room ok.gu tk Z.m5 Z.k5 (lv_cons (ev_call (i := 6) (F 6) ok.room ok.gu tk Z.m6 Z.k6 (lv_cons (ev_cut ok.hK (ev_var (i := 3)) ov_none (ov_some (ev_var (i := 7)))) (lv_nil))) (lv_cons (ev_call (i := 6) (F 6) ok.room ok.gu tk Z.m6 Z.k6 (lv_cons (ev_cut ok.hK (ev_var (i := 3)) (ov_some (ev_var (i := 7))) ov_none) (lv_nil))) (lv_nil)))) (ev_var (i := 4)) (hm := by with_unfolding_all rfl)) (sv_one (sv_ret (ev_bl))) (sv_nil))))
    (sv_cons (sv_for hp ok.calm (iv_range1 (by rfl) Z.b_range (lv_cons (ev_bin op_sub ds_sub (ev_callB cr_lenV (cs_len ok.hK) (by rfl) Z.b_len boot_bi_len (lv_cons (ev_var (i := 3)) (lv_nil))) (ev_int)) (lv_nil))) (gv_name (i := 7) ok.nd) (sv_one (sv_if (tv_cmp (op_neM ok.u1) (ds_eq ok.hK true) (ev_call (i := 6) (F 6) ok.room ok.gu tk Z.m6 Z.k6 (lv_cons (ev_bin op_addV (ds_add ok.hK) (ev_bin op_addV (ds_add ok.hK) (ev_cut ok.hK (ev_var (i := 3)) ov_none (ov_some (ev_var (i := 7)))) (ev_lst (lv_cons (ev_call (i := 5) (F 5) ok.room ok.gu tk Z.m5 Z.k5 (lv_cons (ev_ix ok.hK ok.u2 (ev_var (i := 3)) (ev_var (i := 7))) (lv_cons (ev_ix ok.hK ok.u2 (ev_var (i := 3)) (ev_bin op_addV (ds_add ok.hK) (ev_var (i := 7)) (ev_int))) (lv_nil)))) (lv_nil)))) (ev_cut ok.hK (ev_var (i := 3)) (ov_some (ev_bin op_addV (ds_add ok.hK) (ev_var (i := 7)) (ev_int))) ov_none)) (lv_nil))) (ev_var (i := 4)) (hm := by with_unfolding_all rfl)) (sv_one (sv_ret (ev_bl))) (sv_nil))))
    (sv_cons (sv_par (i := 8) (j := 9) ok.calm ok.nd (lv_cons (ev_ix ok.hK ok.u2 (ev_var (i := 3)) (ev_int)) (lv_cons (ev_call (i := 11) (F 11) ok.room ok.gu tk Z.m11 Z.k11 (lv_cons (ev_var (i := 1)) (lv_cons (ev_bin op_addV (ds_add ok.hK) (ev_callB cr_lenV (cs_len ok.hK) (by rfl) Z.b_len boot_bi_len (lv_cons (ev_ix ok.hK ok.u2 (ev_var (i := 3)) (ev_int)) (lv_nil))) (ev_int)) (lv_nil)))) (lv_nil))))
    (sv_one (sv_for hp ok.calm (iv_val ok.hK (ev_cut ok.hK (ev_var (i := 3)) (ov_some (ev_int)) (ov_some (ev_int)))) (gv_name (i := 6) ok.nd) (sv_cons (sv_set (i := 10) ok.nd (ev_lst (lv_cons (ev_cmp (op_eqM ok.u1) (ds_eq ok.hK false) (ev_call (i := 5) (F 5) ok.room ok.gu tk Z.m5 Z.k5 (lv_cons (ev_var (i := 8)) (lv_cons (ev_var (i := 6)) (lv_nil)))) (ev_call (i := 5) (F 5) ok.room ok.gu tk Z.m5 Z.k5 (lv_cons (ev_var (i := 9)) (lv_cons (ev_var (i := 6)) (lv_nil)))) (hm := by with_unfolding_all rfl)) (lv_cons (ev_cmp (op_eqM ok.u1) (ds_eq ok.hK false) (ev_call (i := 5) (F 5) ok.room ok.gu tk Z.m5 Z.k5 (lv_cons (ev_var (i := 6)) (lv_cons (ev_var (i := 8)) (lv_nil)))) (ev_call (i := 5) (F 5) ok.room ok.gu tk Z.m5 Z.k5 (lv_cons (ev_var (i := 6)) (lv_cons (ev_var (i := 9)) (lv_nil)))) (hm := by with_unfolding_all rfl)) (lv_nil)))))
    (sv_one (sv_if (tv_cmp (op_neM ok.u1) (ds_eq ok.hK true) (ev_var (i := 10)) (ev_bin op_mulA (ds_mulA ok.hK) (ev_lst (lv_cons (ev_cmp (op_eqM ok.u1) (ds_eq ok.hK false) (ev_var (i := 8)) (ev_var (i := 9)) (hm := by with_unfolding_all rfl)) (lv_nil))) (ev_int)) (hm := by with_unfolding_all rfl)) (sv_one (sv_ret (ev_bl))) (sv_nil))))))))))))))
    (sv_one (sv_ret (ev_bl))))
structure Fns (K : PySem.W.Frag) (ad : Nat → Addr) : Prop where
  f0 : ∃ fd, Fun K "table_size" "table_size" st0 (ad 0) fd ∧ Binds K fd ["table"] []
  f1 : ∃ fd, Fun K "entry" "entry" st1 (ad 1) fd ∧ Binds K fd ["table", "m"] []
  f2 : ∃ fd, Fun K "stretches" "stretches" st2 (ad 2) fd ∧ Binds K fd ["m", "b"] []
  f3 : ∃ fd, Fun K "filled" "filled" st3 (ad 3) fd ∧ Binds K fd ["shape", "parts"] []
  f4 : ∃ fd, Fun K "glued_entry" "glued_entry" st4 (ad 4) fd ∧ Binds K fd ["s", "t", "m"] []
  f5 : ∃ fd, Fun K "glue" "glue" st5 (ad 5) fd ∧ Binds K fd ["s", "t"] []
  f6 : ∃ fd, Fun K "glued" "glued" st6 (ad 6) fd ∧ Binds K fd ["tables"] []
  f7 : ∃ fd, Fun K "_law_source" "_law_source" st7 (ad 7) fd ∧ Binds K fd ["_law_script"] []
  f8 : ∃ fd, Fun K "_law_pick" "_law_pick" st8 (ad 8) fd ∧ Binds K fd ["_law_source_here", "_law_many"] []
  f9 : ∃ fd, Fun K "_law_of" "_law_of" st9 (ad 9) fd ∧ Binds K fd ["_law_source_here", "_law_some"] []
  f10 : ∃ fd, Fun K "_law_shape" "_law_shape" st10 (ad 10) fd ∧ Binds K fd ["_law_source_here", "_law_size"] []
  f11 : ∃ fd, Fun K "_law_table" "_law_table" st11 (ad 11) fd ∧ Binds K fd ["_law_source_here", "_law_size"] []
  f12 : ∃ fd, Fun K "_law_sized" "_law_sized" st12 (ad 12) fd ∧ Binds K fd ["_law_source_here", "_law_many", "_law_most"] []
  f13 : ∃ fd, Fun K "law" "law" st13 (ad 13) fd ∧ Binds K fd ["_law_script"] []
theorem fgs {G : Gd} {P : Program} {w : World} {mg : Str → Option Value} {base : Heap} {ad : Nat → Addr} (Z : Wd G.K mg ad) (Y : Fns G.K ad) : ∀ k i, FG P w G.K mg base k (ad i) (spT G (tabOf Prog k i))
  | 0, i => fg_zero
  | n + 1, 0 => by
    obtain ⟨fd, F, B⟩ := Y.f0
    exact fg_of (F := ⟨1, 1, d0⟩) (t := tabOf Prog n) F B sc0 rfl rfl (fun _ _ => rfl) fun cdv A outer s H E rm gu tk hp => dv0 Z (fgs Z Y n) ⟨rfl, rfl, sc0.nd, rm, gu⟩ tk hp
  | n + 1, 1 => by
    obtain ⟨fd, F, B⟩ := Y.f1
    exact fg_of (F := ⟨2, 2, d1⟩) (t := tabOf Prog n) F B sc1 rfl rfl (fun _ _ => rfl) fun cdv A outer s H E rm gu tk hp => dv1 Z (fgs Z Y n) ⟨rfl, rfl, sc1.nd, rm, gu⟩ tk hp
  | n + 1, 2 => by
    obtain ⟨fd, F, B⟩ := Y.f2
    exact fg_of (F := ⟨3, 2, d2⟩) (t := tabOf Prog n) F B sc2 rfl rfl (fun _ _ => rfl) fun cdv A outer s H E rm gu tk hp => dv2 Z (fgs Z Y n) ⟨rfl, rfl, sc2.nd, rm, gu⟩ tk hp
  | n + 1, 3 => by
    obtain ⟨fd, F, B⟩ := Y.f3
    exact fg_of (F := ⟨3, 2, d3⟩) (t := tabOf Prog n) F B sc3 rfl rfl (fun _ _ => rfl) fun cdv A outer s H E rm gu tk hp => dv3 Z (fgs Z Y n) ⟨rfl, rfl, sc3.nd, rm, gu⟩ tk hp
  | n + 1, 4 => by
    obtain ⟨fd, F, B⟩ := Y.f4
    exact fg_of (F := ⟨6, 3, d4⟩) (t := tabOf Prog n) F B sc4 rfl rfl (fun _ _ => rfl) fun cdv A outer s H E rm gu tk hp => dv4 Z (fgs Z Y n) ⟨rfl, rfl, sc4.nd, rm, gu⟩ tk hp
  | n + 1, 5 => by
    obtain ⟨fd, F, B⟩ := Y.f5
    exact fg_of (F := ⟨3, 2, d5⟩) (t := tabOf Prog n) F B sc5 rfl rfl (fun _ _ => rfl) fun cdv A outer s H E rm gu tk hp => dv5 Z (fgs Z Y n) ⟨rfl, rfl, sc5.nd, rm, gu⟩ tk hp
  | n + 1, 6 => by
    obtain ⟨fd, F, B⟩ := Y.f6
    exact fg_of (F := ⟨3, 1, d6⟩) (t := tabOf Prog n) F B sc6 rfl rfl (fun _ _ => rfl) fun cdv A outer s H E rm gu tk hp => dv6 Z (fgs Z Y n) ⟨rfl, rfl, sc6.nd, rm, gu⟩ tk hp
  | n + 1, 7 => by
    obtain ⟨fd, F, B⟩ := Y.f7
    exact fg_of (F := ⟨3, 1, d7⟩) (t := tabOf Prog n) F B sc7 rfl rfl (fun _ _ => rfl) fun cdv A outer s H E rm gu tk hp => dv7 Z (fgs Z Y n) ⟨rfl, rfl, sc7.nd, rm, gu⟩ tk hp
  | n + 1, 8 => by
    obtain ⟨fd, F, B⟩ := Y.f8
    exact fg_of (F := ⟨4, 2, d8⟩) (t := tabOf Prog n) F B sc8 rfl rfl (fun _ _ => rfl) fun cdv A outer s H E rm gu tk hp => dv8 Z (fgs Z Y n) ⟨rfl, rfl, sc8.nd, rm, gu⟩ tk hp
  | n + 1, 9 => by
    obtain ⟨fd, F, B⟩ := Y.f9
    exact fg_of (F := ⟨2, 2, d9⟩) (t := tabOf Prog n) F B sc9 rfl rfl (fun _ _ => rfl) fun cdv A outer s H E rm gu tk hp => dv9 Z (fgs Z Y n) ⟨rfl, rfl, sc9.nd, rm, gu⟩ tk hp
  | n + 1, 10 => by
    obtain ⟨fd, F, B⟩ := Y.f10
    exact fg_of (F := ⟨3, 2, d10⟩) (t := tabOf Prog n) F B sc10 rfl rfl (fun _ _ => rfl) fun cdv A outer s H E rm gu tk hp => dv10 Z (fgs Z Y n) ⟨rfl, rfl, sc10.nd, rm, gu⟩ tk hp
  | n + 1, 11 => by
    obtain ⟨fd, F, B⟩ := Y.f11
    exact fg_of (F := ⟨3, 2, d11⟩) (t := tabOf Prog n) F B sc11 rfl rfl (fun _ _ => rfl) fun cdv A outer s H E rm gu tk hp => dv11 Z (fgs Z Y n) ⟨rfl, rfl, sc11.nd, rm, gu⟩ tk hp
  | n + 1, 12 => by
    obtain ⟨fd, F, B⟩ := Y.f12
    exact fg_of (F := ⟨6, 3, d12⟩) (t := tabOf Prog n) F B sc12 rfl rfl (fun _ _ => rfl) fun cdv A outer s H E rm gu tk hp => dv12 Z (fgs Z Y n) ⟨rfl, rfl, sc12.nd, rm, gu⟩ tk hp
  | n + 1, 13 => by
    obtain ⟨fd, F, B⟩ := Y.f13
    exact fg_of (F := ⟨11, 1, d13⟩) (t := tabOf Prog n) F B sc13 rfl rfl (fun _ _ => rfl) fun cdv A outer s H E rm gu tk hp => dv13 Z (fgs Z Y n) ⟨rfl, rfl, sc13.nd, rm, gu⟩ tk hp
  | n + 1, i + 14 => fun A outer s H us vs Q E _ _ _ _ ⟨M, rho, ds, _, _, q⟩ => q.elim
theorem all_mk {l : PySem.W.OpenLaw} {w : World} {K : PySem.W.Frag} {h : Heap} {mg : Str → Option Value} {fa f0 f1 f2 f3 f4 f5 f6 f7 f8 f9 f10 f11 f12 f13 : Addr} (X : K.In h) (G : h.Ns mainGlobals mg) (hfa : mg "law" = some (.ref fa))
    {od0 an0 : Option Addr} {sl0 : Array (Option Value)} {oc0 kV0 dc0 pm0 cd0 ct0 : Value}
    (a0 : PySem.W.nsIn K mainGlobals "table_size" = some (some (.ref f0))) (l0 : K.lookup f0 = some ⟨oc0, od0, .func (PySem.W.fnOf "table_size" "table_size" (defArgs st0) (defBody st0) (defScope st0) .none kV0 dc0 pm0 an0 cd0 ct0), sl0⟩) (c0 : PySem.W.codeIn K cd0 "table_size" = true) (k0 : PySem.W.keepIn K (.ref f0) = true)
    {od1 an1 : Option Addr} {sl1 : Array (Option Value)} {oc1 kV1 dc1 pm1 cd1 ct1 : Value}
    (a1 : PySem.W.nsIn K mainGlobals "entry" = some (some (.ref f1))) (l1 : K.lookup f1 = some ⟨oc1, od1, .func (PySem.W.fnOf "entry" "entry" (defArgs st1) (defBody st1) (defScope st1) .none kV1 dc1 pm1 an1 cd1 ct1), sl1⟩) (c1 : PySem.W.codeIn K cd1 "entry" = true) (k1 : PySem.W.keepIn K (.ref f1) = true)
    {od2 an2 : Option Addr} {sl2 : Array (Option Value)} {oc2 kV2 dc2 pm2 cd2 ct2 : Value}
    (a2 : PySem.W.nsIn K mainGlobals "stretches" = some (some (.ref f2))) (l2 : K.lookup f2 = some ⟨oc2, od2, .func (PySem.W.fnOf "stretches" "stretches" (defArgs st2) (defBody st2) (defScope st2) .none kV2 dc2 pm2 an2 cd2 ct2), sl2⟩) (c2 : PySem.W.codeIn K cd2 "stretches" = true) (k2 : PySem.W.keepIn K (.ref f2) = true)
    {od3 an3 : Option Addr} {sl3 : Array (Option Value)} {oc3 kV3 dc3 pm3 cd3 ct3 : Value}
    (a3 : PySem.W.nsIn K mainGlobals "filled" = some (some (.ref f3))) (l3 : K.lookup f3 = some ⟨oc3, od3, .func (PySem.W.fnOf "filled" "filled" (defArgs st3) (defBody st3) (defScope st3) .none kV3 dc3 pm3 an3 cd3 ct3), sl3⟩) (c3 : PySem.W.codeIn K cd3 "filled" = true) (k3 : PySem.W.keepIn K (.ref f3) = true)
    {od4 an4 : Option Addr} {sl4 : Array (Option Value)} {oc4 kV4 dc4 pm4 cd4 ct4 : Value}
    (a4 : PySem.W.nsIn K mainGlobals "glued_entry" = some (some (.ref f4))) (l4 : K.lookup f4 = some ⟨oc4, od4, .func (PySem.W.fnOf "glued_entry" "glued_entry" (defArgs st4) (defBody st4) (defScope st4) .none kV4 dc4 pm4 an4 cd4 ct4), sl4⟩) (c4 : PySem.W.codeIn K cd4 "glued_entry" = true) (k4 : PySem.W.keepIn K (.ref f4) = true)
    {od5 an5 : Option Addr} {sl5 : Array (Option Value)} {oc5 kV5 dc5 pm5 cd5 ct5 : Value}
    (a5 : PySem.W.nsIn K mainGlobals "glue" = some (some (.ref f5))) (l5 : K.lookup f5 = some ⟨oc5, od5, .func (PySem.W.fnOf "glue" "glue" (defArgs st5) (defBody st5) (defScope st5) .none kV5 dc5 pm5 an5 cd5 ct5), sl5⟩) (c5 : PySem.W.codeIn K cd5 "glue" = true) (k5 : PySem.W.keepIn K (.ref f5) = true)
    {od6 an6 : Option Addr} {sl6 : Array (Option Value)} {oc6 kV6 dc6 pm6 cd6 ct6 : Value}
    (a6 : PySem.W.nsIn K mainGlobals "glued" = some (some (.ref f6))) (l6 : K.lookup f6 = some ⟨oc6, od6, .func (PySem.W.fnOf "glued" "glued" (defArgs st6) (defBody st6) (defScope st6) .none kV6 dc6 pm6 an6 cd6 ct6), sl6⟩) (c6 : PySem.W.codeIn K cd6 "glued" = true) (k6 : PySem.W.keepIn K (.ref f6) = true)
    {od7 an7 : Option Addr} {sl7 : Array (Option Value)} {oc7 kV7 dc7 pm7 cd7 ct7 : Value}
    (a7 : PySem.W.nsIn K mainGlobals "_law_source" = some (some (.ref f7))) (l7 : K.lookup f7 = some ⟨oc7, od7, .func (PySem.W.fnOf "_law_source" "_law_source" (defArgs st7) (defBody st7) (defScope st7) .none kV7 dc7 pm7 an7 cd7 ct7), sl7⟩) (c7 : PySem.W.codeIn K cd7 "_law_source" = true) (k7 : PySem.W.keepIn K (.ref f7) = true)
    {od8 an8 : Option Addr} {sl8 : Array (Option Value)} {oc8 kV8 dc8 pm8 cd8 ct8 : Value}
    (a8 : PySem.W.nsIn K mainGlobals "_law_pick" = some (some (.ref f8))) (l8 : K.lookup f8 = some ⟨oc8, od8, .func (PySem.W.fnOf "_law_pick" "_law_pick" (defArgs st8) (defBody st8) (defScope st8) .none kV8 dc8 pm8 an8 cd8 ct8), sl8⟩) (c8 : PySem.W.codeIn K cd8 "_law_pick" = true) (k8 : PySem.W.keepIn K (.ref f8) = true)
    {od9 an9 : Option Addr} {sl9 : Array (Option Value)} {oc9 kV9 dc9 pm9 cd9 ct9 : Value}
    (a9 : PySem.W.nsIn K mainGlobals "_law_of" = some (some (.ref f9))) (l9 : K.lookup f9 = some ⟨oc9, od9, .func (PySem.W.fnOf "_law_of" "_law_of" (defArgs st9) (defBody st9) (defScope st9) .none kV9 dc9 pm9 an9 cd9 ct9), sl9⟩) (c9 : PySem.W.codeIn K cd9 "_law_of" = true) (k9 : PySem.W.keepIn K (.ref f9) = true)
    {od10 an10 : Option Addr} {sl10 : Array (Option Value)} {oc10 kV10 dc10 pm10 cd10 ct10 : Value}
    (a10 : PySem.W.nsIn K mainGlobals "_law_shape" = some (some (.ref f10))) (l10 : K.lookup f10 = some ⟨oc10, od10, .func (PySem.W.fnOf "_law_shape" "_law_shape" (defArgs st10) (defBody st10) (defScope st10) .none kV10 dc10 pm10 an10 cd10 ct10), sl10⟩) (c10 : PySem.W.codeIn K cd10 "_law_shape" = true) (k10 : PySem.W.keepIn K (.ref f10) = true)
    {od11 an11 : Option Addr} {sl11 : Array (Option Value)} {oc11 kV11 dc11 pm11 cd11 ct11 : Value}
    (a11 : PySem.W.nsIn K mainGlobals "_law_table" = some (some (.ref f11))) (l11 : K.lookup f11 = some ⟨oc11, od11, .func (PySem.W.fnOf "_law_table" "_law_table" (defArgs st11) (defBody st11) (defScope st11) .none kV11 dc11 pm11 an11 cd11 ct11), sl11⟩) (c11 : PySem.W.codeIn K cd11 "_law_table" = true) (k11 : PySem.W.keepIn K (.ref f11) = true)
    {od12 an12 : Option Addr} {sl12 : Array (Option Value)} {oc12 kV12 dc12 pm12 cd12 ct12 : Value}
    (a12 : PySem.W.nsIn K mainGlobals "_law_sized" = some (some (.ref f12))) (l12 : K.lookup f12 = some ⟨oc12, od12, .func (PySem.W.fnOf "_law_sized" "_law_sized" (defArgs st12) (defBody st12) (defScope st12) .none kV12 dc12 pm12 an12 cd12 ct12), sl12⟩) (c12 : PySem.W.codeIn K cd12 "_law_sized" = true) (k12 : PySem.W.keepIn K (.ref f12) = true)
    {od13 an13 : Option Addr} {sl13 : Array (Option Value)} {oc13 kV13 dc13 pm13 cd13 ct13 : Value}
    (a13 : PySem.W.nsIn K mainGlobals "law" = some (some (.ref f13))) (l13 : K.lookup f13 = some ⟨oc13, od13, .func (PySem.W.fnOf "law" "law" (defArgs st13) (defBody st13) (defScope st13) .none kV13 dc13 pm13 an13 cd13 ct13), sl13⟩) (c13 : PySem.W.codeIn K cd13 "law" = true) (k13 : PySem.W.keepIn K (.ref f13) = true)
    (z_abs : PySem.W.nsIn K mainGlobals "abs" = some none) (z_int : PySem.W.nsIn K mainGlobals "int" = some none) (z_len : PySem.W.nsIn K mainGlobals "len" = some none) (z_max : PySem.W.nsIn K mainGlobals "max" = some none) (z_min : PySem.W.nsIn K mainGlobals "min" = some none) (z_range : PySem.W.nsIn K mainGlobals "range" = some none) (z_tuple : PySem.W.nsIn K mainGlobals "tuple" = some none) :
    ∃ T XT : List Addr, ∀ base : Heap, K.In base → base.Ns mainGlobals mg → FG l.prog w K mg base 200 fa (spT ⟨K, T, XT⟩ (tabOf Prog 200 13)) := by
  have e := hfa.symm.trans (PySem.W.mg_of X G a13)
  cases e
  refine ⟨[], [], fun base _ _ => ?_⟩
  let ad : Nat → Addr := fun i => match i with
    | 0 => f0
    | 1 => f1
    | 2 => f2
    | 3 => f3
    | 4 => f4
    | 5 => f5
    | 6 => f6
    | 7 => f7
    | 8 => f8
    | 9 => f9
    | 10 => f10
    | 11 => f11
    | 12 => f12
    | 13 => fa
    | _ => 0
  have Z : Wd (⟨K, [], []⟩ : Gd).K mg ad := { m0 := PySem.W.mg_of X G a0, k0 := k0, m1 := PySem.W.mg_of X G a1, k1 := k1, m2 := PySem.W.mg_of X G a2, k2 := k2, m3 := PySem.W.mg_of X G a3, k3 := k3, m4 := PySem.W.mg_of X G a4, k4 := k4, m5 := PySem.W.mg_of X G a5, k5 := k5, m6 := PySem.W.mg_of X G a6, k6 := k6, m7 := PySem.W.mg_of X G a7, k7 := k7, m8 := PySem.W.mg_of X G a8, k8 := k8, m9 := PySem.W.mg_of X G a9, k9 := k9, m10 := PySem.W.mg_of X G a10, k10 := k10, m11 := PySem.W.mg_of X G a11, k11 := k11, m12 := PySem.W.mg_of X G a12, k12 := k12, m13 := PySem.W.mg_of X G a13, k13 := k13, b_abs := PySem.W.mg_none_of X G z_abs, b_int := PySem.W.mg_none_of X G z_int, b_len := PySem.W.mg_none_of X G z_len, b_max := PySem.W.mg_none_of X G z_max, b_min := PySem.W.mg_none_of X G z_min, b_range := PySem.W.mg_none_of X G z_range, b_tuple := PySem.W.mg_none_of X G z_tuple }
  have Y : Fns (⟨K, [], []⟩ : Gd).K ad := { f0 := (let F := fun_mk (st := st0) l0 c0 k0; ⟨_, F, F.binds fun _ _ _ _ _ _ us hl => match us, hl with | [_], _ => rfl⟩), f1 := (let F := fun_mk (st := st1) l1 c1 k1; ⟨_, F, F.binds fun _ _ _ _ _ _ us hl => match us, hl with | [_, _], _ => rfl⟩), f2 := (let F := fun_mk (st := st2) l2 c2 k2; ⟨_, F, F.binds fun _ _ _ _ _ _ us hl => match us, hl with | [_, _], _ => rfl⟩), f3 := (let F := fun_mk (st := st3) l3 c3 k3; ⟨_, F, F.binds fun _ _ _ _ _ _ us hl => match us, hl with | [_, _], _ => rfl⟩), f4 := (let F := fun_mk (st := st4) l4 c4 k4; ⟨_, F, F.binds fun _ _ _ _ _ _ us hl => match us, hl with | [_, _, _], _ => rfl⟩), f5 := (let F := fun_mk (st := st5) l5 c5 k5; ⟨_, F, F.binds fun _ _ _ _ _ _ us hl => match us, hl with | [_, _], _ => rfl⟩), f6 := (let F := fun_mk (st := st6) l6 c6 k6; ⟨_, F, F.binds fun _ _ _ _ _ _ us hl => match us, hl with | [_], _ => rfl⟩), f7 := (let F := fun_mk (st := st7) l7 c7 k7; ⟨_, F, F.binds fun _ _ _ _ _ _ us hl => match us, hl with | [_], _ => rfl⟩), f8 := (let F := fun_mk (st := st8) l8 c8 k8; ⟨_, F, F.binds fun _ _ _ _ _ _ us hl => match us, hl with | [_, _], _ => rfl⟩), f9 := (let F := fun_mk (st := st9) l9 c9 k9; ⟨_, F, F.binds fun _ _ _ _ _ _ us hl => match us, hl with | [_, _], _ => rfl⟩), f10 := (let F := fun_mk (st := st10) l10 c10 k10; ⟨_, F, F.binds fun _ _ _ _ _ _ us hl => match us, hl with | [_, _], _ => rfl⟩), f11 := (let F := fun_mk (st := st11) l11 c11 k11; ⟨_, F, F.binds fun _ _ _ _ _ _ us hl => match us, hl with | [_, _], _ => rfl⟩), f12 := (let F := fun_mk (st := st12) l12 c12 k12; ⟨_, F, F.binds fun _ _ _ _ _ _ us hl => match us, hl with | [_, _, _], _ => rfl⟩), f13 := (let F := fun_mk (st := st13) l13 c13 k13; ⟨_, F, F.binds fun _ _ _ _ _ _ us hl => match us, hl with | [_], _ => rfl⟩) }
  exact fgs Z Y 200 13
end Ev

/-! Ev, part U: shapes and tables as data. -/
namespace Ev
open PySem L2

theorem toPy_some {M : Store} {k : Nat} {d : D} {p : PyData} (h : pyD d = some p) : toPy M k d = some p := by
  cases k with
  | zero => rw [toPy]; exact h
  | succ k => cases d <;> simp only [toPy, h]
inductive Sh where
  | lf
  | nd (a b : Sh)
deriving DecidableEq
namespace Sh
def toD : Sh → D
  | lf => .tup []
  | nd a b => .tup [a.toD, b.toD]
def sz : Sh → Nat
  | lf => 1
  | nd a b => a.sz + b.sz
def py : Sh → PyData
  | lf => .tuple []
  | nd a b => .tuple [a.py, b.py]
theorem sz_pos : ∀ s : Sh, 1 ≤ s.sz
  | lf => Nat.le_refl _
  | nd a b => Nat.le_trans a.sz_pos (Nat.le_add_right _ _)
theorem pyD_eq : ∀ s : Sh, pyD s.toD = some s.py
  | lf => by simp only [toD, pyD, pyDs, py]; rfl
  | nd a b => by simp only [toD, pyD, pyDs, pyD_eq a, pyD_eq b, py]; rfl
theorem toPy_eq (M : Store) (k : Nat) (s : Sh) : toPy M k s.toD = some s.py := by
  exact toPy_some (pyD_eq s)
theorem lay : ∀ s : Sh, s.py.canLay0 = true
  | lf => by rw [py, PyData.canLay0, PyData.canLayAll0]
  | nd a b => by rw [py, PyData.canLay0, PyData.canLayAll0, PyData.canLayAll0, PyData.canLayAll0, lay a, lay b]; rfl
theorem dep : ∀ s : Sh, s.py.depth ≤ s.sz
  | lf => by rw [py, PyData.depth, PyData.depthAll]; exact Nat.le_refl _
  | nd a b => by
    have h1 := dep a
    have h2 := dep b
    have h3 := a.sz_pos
    have h4 := b.sz_pos
    rw [py, PyData.depth, PyData.depthAll, PyData.depthAll, PyData.depthAll]
    show max a.py.depth (max b.py.depth 0) + 1 ≤ a.sz + b.sz
    omega
theorem eqv : ∀ s t : Sh, PyData.eqv s.py t.py = decide (s = t)
  | lf, lf => by rw [py, PyData.eqv, PyData.eqvAll]; simp
  | lf, nd a b => by rw [py, py, PyData.eqv, PyData.eqvAll]; simp
  | nd a b, lf => by rw [py, py, PyData.eqv, PyData.eqvAll]; simp
  | nd a b, nd c d => by
    rw [py, py, PyData.eqv, PyData.eqvAll, PyData.eqvAll, PyData.eqvAll, eqv a c, eqv b d]
    by_cases h1 : a = c <;> by_cases h2 : b = d <;> simp [h1, h2]
theorem low (k : Nat) : ∀ s : Sh, s.toD.low k = true
  | lf => rfl
  | nd a b => by simp only [toD, D.low, lowL, low k a, low k b, Bool.and_self]
end Sh
theorem dEq_sh {M : Store} {neg : Bool} {s t : Sh} (h : min s.sz t.sz ≤ 150) : dEq neg s.toD t.toD M = .ok (.bl (if neg then !decide (s = t) else decide (s = t))) M := by
  have h1 := s.dep
  have h2 := t.dep
  simp only [dEq, Sh.toPy_eq]
  rw [if_pos ⟨s.lay, t.lay, by omega⟩, Sh.eqv]
/-! ### tables -/
abbrev Tb := List Sh
def tbD (s : Tb) : D := .tup (s.map Sh.toD)
def ent (s : Tb) (m : Nat) : Sh := if m = 1 then .lf else s.getD (m - 2) .lf
abbrev tsz (s : Tb) : Nat := s.length + 1
/-- each entry has its size -/
def Good (s : Tb) : Prop := ∀ m, 2 ≤ m → m ≤ tsz s → (ent s m).sz = m
theorem Good.sz {s : Tb} (h : Good s) {m : Nat} (h1 : 1 ≤ m) (h2 : m ≤ tsz s) : (ent s m).sz = m := by
  by_cases hm : m = 1
  · subst hm; rfl
  · exact h m (by omega) h2
def tbPy (s : Tb) : PyData := .tuple (s.map Sh.py)
theorem tb_pyDs : ∀ s : Tb, pyDs (s.map Sh.toD) = some (s.map Sh.py)
  | [] => by simp only [List.map_nil, pyDs]
  | x :: s => by simp only [List.map_cons, pyDs, Sh.pyD_eq, tb_pyDs s]
theorem tb_toPy (M : Store) (k : Nat) (s : Tb) : toPy M k (tbD s) = some (tbPy s) := by
  have h : pyD (tbD s) = some (tbPy s) := by
    unfold tbD tbPy
    rw [pyD, tb_pyDs s]
    rfl
  exact toPy_some h
theorem tb_layAll : ∀ s : Tb, PyData.canLayAll0 (s.map Sh.py) = true
  | [] => by rw [List.map_nil, PyData.canLayAll0]
  | x :: s => by rw [List.map_cons, PyData.canLayAll0, Sh.lay, tb_layAll s]; rfl
theorem tb_depAll (B : Nat) : ∀ s : Tb, (∀ x ∈ s, x.sz ≤ B) → PyData.depthAll (s.map Sh.py) ≤ B
  | [], _ => by rw [List.map_nil, PyData.depthAll]; exact Nat.zero_le _
  | x :: s, h => by
    have h1 := tb_depAll B s fun y hy => h y (List.mem_cons_of_mem _ hy)
    have h2 := h x (List.mem_cons_self ..)
    have h3 := x.dep
    rw [List.map_cons, PyData.depthAll]
    omega
theorem tb_eqvAll : ∀ s t : Tb, PyData.eqvAll (s.map Sh.py) (t.map Sh.py) = decide (s = t)
  | [], [] => by rw [List.map_nil, PyData.eqvAll]; simp
  | [], y :: t => by rw [List.map_nil, List.map_cons, PyData.eqvAll]; simp
  | x :: s, [] => by rw [List.map_nil, List.map_cons, PyData.eqvAll]; simp
  | x :: s, y :: t => by
    rw [List.map_cons, List.map_cons, PyData.eqvAll, Sh.eqv, tb_eqvAll s t]
    by_cases h1 : x = y <;> by_cases h2 : s = t <;> simp [h1, h2]
theorem dEq_tb {M : Store} {neg : Bool} {s t : Tb} (h : ∀ x ∈ s, x.sz ≤ 149) : dEq neg (tbD s) (tbD t) M = .ok (.bl (if neg then !decide (s = t) else decide (s = t))) M := by
  have h1 := tb_depAll 149 s h
  simp only [dEq, tb_toPy]
  rw [if_pos ⟨by unfold tbPy; rw [PyData.canLay0]; exact tb_layAll s, by unfold tbPy; rw [PyData.canLay0]; exact tb_layAll t, by
    have : (tbPy s).depth ≤ 150 := by unfold tbPy; rw [PyData.depth]; omega
    omega⟩]
  unfold tbPy
  rw [PyData.eqv, tb_eqvAll]
theorem lowL_sh (k : Nat) : ∀ s : List Sh, lowL k (s.map Sh.toD) = true
  | [] => rfl
  | x :: s => by simp only [List.map_cons, lowL, Sh.low, lowL_sh k s, Bool.and_self]
theorem tb_low (k : Nat) (s : Tb) : (tbD s).low k = true := by
  unfold tbD
  rw [D.low]
  exact lowL_sh k s
theorem Good.mem {s : Tb} (h : Good s) {x : Sh} (hx : x ∈ s) : x.sz ≤ tsz s := by
  obtain ⟨i, hi, rfl⟩ := List.getElem_of_mem hx
  have ht : tsz s = s.length + 1 := rfl
  have := h (i + 2) (by omega) (by omega)
  unfold ent at this
  rw [if_neg (by omega), show i + 2 - 2 = i by omega, List.getD_eq_getElem?_getD, List.getElem?_eq_getElem hi] at this
  simp only [Option.getD_some] at this
  omega
/-! ### filling -/
/-- leaves are replaced by the parts, in order; what is left of the parts -/
def fillR : Sh → List Sh → Sh × List Sh
  | .lf, [] => (.lf, [])
  | .lf, p :: ps => (p, ps)
  | .nd a b, ps => (.nd (fillR a ps).1 (fillR b (fillR a ps).2).1, (fillR b (fillR a ps).2).2)
abbrev fill (s : Sh) (ps : List Sh) : Sh := (fillR s ps).1
theorem fillR_rest : ∀ (s : Sh) (ps : List Sh), s.sz ≤ ps.length → (fillR s ps).2 = ps.drop s.sz
  | .lf, [], h => by simp [Sh.sz] at h
  | .lf, p :: ps, _ => rfl
  | .nd a b, ps, h => by
    rw [Sh.sz] at h
    have h1 := fillR_rest a ps (by omega)
    have h2 := fillR_rest b (fillR a ps).2 (by rw [h1, List.length_drop]; omega)
    show (fillR b (fillR a ps).2).2 = ps.drop (a.sz + b.sz)
    rw [h2, h1, List.drop_drop]
theorem fillR_app : ∀ (s : Sh) (ps qs : List Sh), s.sz ≤ ps.length → fillR s (ps ++ qs) = ((fillR s ps).1, (fillR s ps).2 ++ qs)
  | .lf, [], qs, h => by simp [Sh.sz] at h
  | .lf, p :: ps, qs, _ => rfl
  | .nd a b, ps, qs, h => by
    rw [Sh.sz] at h
    have h1 := fillR_app a ps qs (by omega)
    have h2 := fillR_app b (fillR a ps).2 qs (by rw [fillR_rest a ps (by omega), List.length_drop]; omega)
    simp only [fillR, h1, h2]
theorem fill_nd {a b : Sh} {ps : List Sh} (h : a.sz ≤ ps.length) : fill (.nd a b) ps = .nd (fill a ps) (fill b (ps.drop a.sz)) := by
  show Sh.nd (fillR a ps).1 (fillR b (fillR a ps).2).1 = _
  rw [fillR_rest a ps h]
theorem fill_take {s : Sh} {ps : List Sh} (h : s.sz ≤ ps.length) : fill s ps = fill s (ps.take s.sz) := by
  have := fillR_app s (ps.take s.sz) (ps.drop s.sz) (by rw [List.length_take]; omega)
  rw [List.take_append_drop] at this
  show (fillR s ps).1 = _
  rw [this]
theorem sum_split (l : List Sh) (n : Nat) : (l.map Sh.sz).sum = ((l.take n).map Sh.sz).sum + ((l.drop n).map Sh.sz).sum := by
  rw [← List.sum_append, ← List.map_append, List.take_append_drop]
theorem fill_sz : ∀ (s : Sh) (ps : List Sh), ps.length = s.sz → (fill s ps).sz = (ps.map Sh.sz).sum
  | .lf, ps, h => by
    match ps, h with
    | [p], _ => simp [fill, fillR]
  | .nd a b, ps, h => by
    rw [Sh.sz] at h
    rw [fill_nd (by omega), Sh.sz, fill_take (by omega), fill_sz a (ps.take a.sz) (by rw [List.length_take]; omega), fill_sz b (ps.drop a.sz) (by rw [List.length_drop]; omega), ← sum_split]
end Ev

/-! Ev, part V: entries, stretches, filling, gluing: what these defs answer, in whatever program they stand. -/
namespace Ev
open PySem L2

/-! ### comprehensions in general -/
theorem lcG_list {e : EvE} {n : Nat} {t : Tgt} {vs : List Nat} {f : EvE} {eta : Env} {M M1 : Store} (ds : List D) (y : Nat → D) (he : e eta M = .ok (.ref n) M1) (hl : M1[n]? = some (.lst ds)) (hn : ds.length ≤ 1000000)
    (step : ∀ i d acc, ds[i]? = some d → ∃ eta1, asg (M1 ++ [.lst acc]) t d (wipeE eta vs) = some eta1 ∧ f eta1 (M1 ++ [.lst acc]) = .ok (y i) (M1 ++ [.lst acc])) : eLc (itE e) t vs tYesE f eta M = .ok (.ref M1.length) (M1 ++ [.lst ((List.range ds.length).map y)]) := by
  have hJ : ∀ (i : Nat) (acc : List D), itLive n i (M1 ++ [.lst acc]) = some ds[i]? := fun i acc => by simp only [itLive, liveAt, app_old hl, Option.map_some]
  have h := lc_pure (J := itLive n) (t := t) (vs := vs) (f := f) (eta := eta) (M := M1) ds.length (fun i => ds.getD i .non) y (by unfold cap; omega)
    (fun i acc hi => by rw [hJ]; simp [hi, List.getElem?_eq_getElem hi]) (fun acc => by rw [hJ]; simp) (fun i acc hi => by
      have := step i (ds.getD i .non) acc (by simp [hi, List.getElem?_eq_getElem hi])
      exact this)
  have hit : itE e eta M = .ok (itLive n) M1 := by simp only [itE, he, Out.bind, itD, liveAt, hl]
  simp only [eLc, hit, Out.bind]
  rw [h]
theorem lcG_rg {it : EvIt} {lo c : Int} {n : Nat} {j : Nat} {f : EvE} {eta : Env} {M : Store} (y : Nat → D) (hit : it eta M = .ok (itRgC lo c n) M) (hn : n ≤ 1000000)
    (step : ∀ i acc, i < n → f ((eta.set j none).set j (some (.int (lo + i * c)))) (M ++ [.lst acc]) = .ok (y i) (M ++ [.lst acc])) : eLc it (.nm j) [j] tYesE f eta M = .ok (.ref M.length) (M ++ [.lst ((List.range n).map y)]) := by
  have h := lc_pure (J := itRgC lo c n) (t := .nm j) (vs := [j]) (f := f) (eta := eta) (M := M) n (fun i => .int (lo + (i : Int) * c)) y (by unfold cap; omega) (fun i acc hi => by simp [itRgC, hi]) (fun acc => by simp [itRgC]) (fun i acc hi => ⟨_, rfl, step i acc hi⟩)
  simp only [eLc, hit, Out.bind]
  rw [h]
theorem lcG_rg1 {it : EvIt} {lo : Int} {n : Nat} {j : Nat} {f : EvE} {eta : Env} {M : Store} (y : Nat → D) (hit : it eta M = .ok (itRg lo n) M) (hn : n ≤ 1000000)
    (step : ∀ i acc, i < n → f ((eta.set j none).set j (some (.int (lo + i)))) (M ++ [.lst acc]) = .ok (y i) (M ++ [.lst acc])) : eLc it (.nm j) [j] tYesE f eta M = .ok (.ref M.length) (M ++ [.lst ((List.range n).map y)]) := by
  have h := lc_pure (J := itRg lo n) (t := .nm j) (vs := [j]) (f := f) (eta := eta) (M := M) n (fun i => .int (lo + (i : Int))) y (by unfold cap; omega) (fun i acc hi => by simp [itRg, hi]) (fun acc => by simp [itRg]) (fun i acc hi => ⟨_, rfl, step i acc hi⟩)
  simp only [eLc, hit, Out.bind]
  rw [h]

/-! ### small things -/
theorem eqI {M : Store} {neg : Bool} {a b : Int} : dEq neg (.int a) (.int b) M = .ok (.bl (if neg then !decide (a = b) else decide (a = b))) M := by
  have hb : PyData.eqv (.int a) (.int b) = decide (a = b) := by
    rw [PyData.eqv]
    by_cases q : a = b <;> simp [q]
  simp only [dEq, toPy, pyD, PyData.canLay0, PyData.depth, hb]
  simp
theorem atI_ok {ds : List D} {i : Nat} {d : D} (h : ds[i]? = some d) : atI ds (i : Int) = some d := atI_nat h
theorem dIx_tup {ds : List D} {i : Nat} {d : D} {M : Store} (h : ds[i]? = some d) : dIx (.tup ds) (.int (i : Int)) M = .ok d M := by simp only [dIx, atI_ok h]
theorem dIx_list {n i : Nat} {ds : List D} {d : D} {M : Store} (hm : M[n]? = some (.lst ds)) (h : ds[i]? = some d) : dIx (.ref n) (.int (i : Int)) M = .ok d M := by simp only [dIx, hm, atI_ok h]
/-- a def hands back data without places -/
theorem fin_dat {M N : Store} {d : D} (h : d.low M.length = true) : finS M (.rt d (M ++ N)) = .ok d M := gc_old h
theorem fin_dat0 {M : Store} {d : D} (h : d.low M.length = true) : finS M (.rt d M) = .ok d M := gc_old0 h

/-! ### entry, size -/
def cTs : EvS := sRet (eBin dAdd (eB bLen (lCons (eVar 0) (lNil))) (eC (.int 1)))
theorem ts_ok {P : List Fn} {k i : Nat} (h : P[i]? = some ⟨1, 1, fun _ => cTs⟩) {s : Tb} {M : Store} : tabOf P (k + 1) i [tbD s] M = .ok (.int (tsz s : Nat)) M := by
  rw [tab_at h rfl]
  show finS M (cTs [some (tbD s)] M) = _
  have e : cTs [some (tbD s)] M = .rt (.int (tsz s : Nat)) M := ret_ok (bi_ok (bL_ok (l1_ok rfl) rfl) rfl (by
    show Out.ok (D.int (((s.map Sh.toD).length : Nat) + 1 : Int)) M = _
    rw [List.length_map]
    rfl))
  rw [e]
  exact fin_dat0 rfl
def cEnt : EvS := sRet (eIf (tOf (eBin (dEq false) (eVar 1) (eC (.int 1)))) (eTup (lNil)) (eBin dIx (eVar 0) (eBin dSub (eVar 1) (eC (.int 2)))))
theorem ent_ok {P : List Fn} {k i : Nat} (h : P[i]? = some ⟨2, 2, fun _ => cEnt⟩) {s : Tb} {m : Nat} {M : Store} (h1 : 1 ≤ m) (h2 : m ≤ tsz s) : tabOf P (k + 1) i [tbD s, .int (m : Nat)] M = .ok (ent s m).toD M := by
  rw [tab_at h rfl]
  show finS M (cEnt [some (tbD s), some (.int (m : Nat))] M) = _
  have ht : tsz s = s.length + 1 := rfl
  have e : cEnt [some (tbD s), some (.int (m : Nat))] M = .rt (ent s m).toD M := by
    refine ret_ok ((eif_ok (tOf_ok (bi_ok (y := .int 1) rfl rfl eqI))).trans ?_)
    unfold ent
    by_cases hm : m = 1
    · subst hm
      rfl
    · have hz : ¬ ((m : Int) = 1) := by omega
      simp only [Bool.false_eq_true, if_false, hz, decide_false, if_neg hm]
      refine bi_ok (x := tbD s) (y := .int ((m - 2 : Nat) : Int)) rfl (bi_ok (x := .int (m : Nat)) (y := .int 2) rfl rfl ?_) (dIx_tup ?_)
      · show Out.ok (D.int ((m : Int) - 2)) M = _
        rw [show ((m : Int) - 2) = ((m - 2 : Nat) : Int) by omega]
      · rw [List.getElem?_map, List.getElem?_eq_getElem (by omega)]
        simp [List.getD_eq_getElem?_getD, List.getElem?_eq_getElem (show m - 2 < s.length by omega)]
  rw [e]
  exact fin_dat0 (Sh.low _ _)

/-! ### stretches -/
abbrev kN (m b : Nat) : Nat := (m - 1) / b + 1
def strD (m b : Nat) : List D := (List.range (kN m b)).map fun i => .tup [.int ((i * b : Nat) : Int), .int ((min (i * b + b) m : Nat) : Int)]
def cStrE : EvE := eTup (lCons (eVar 2) (lCons (eB bMin (lCons (eBin dAdd (eVar 2) (eVar 1)) (lCons (eVar 0) (lNil)))) (lNil)))
def cStr : EvS := sRet (eLc (itRange3 (lCons (eC (.int 0)) (lCons (eVar 0) (lCons (eVar 1) (lNil))))) (.nm 2) [2] (tYesE) cStrE)
theorem lowL_strD (k m b : Nat) : lowL k (strD m b) = true := by
  have : ∀ l : List Nat, lowL k (l.map fun i => D.tup [.int ((i * b : Nat) : Int), .int ((min (i * b + b) m : Nat) : Int)]) = true := fun l => by
    induction l with
    | nil => rfl
    | cons x l ih => simp only [List.map_cons, lowL, D.low, ih, Bool.and_self]
  exact this _
theorem rg3_ok {m b : Nat} (h1 : 1 ≤ m) (h2 : m ≤ 100000) (h3 : 1 ≤ b) (h4 : b ≤ 100000) {eta : Env} {M : Store} {x y z : EvE} (hx : x eta M = .ok (.int 0) M) (hy : y eta M = .ok (.int (m : Nat)) M) (hz : z eta M = .ok (.int (b : Nat)) M) :
    itRange3 (lCons x (lCons y (lCons z lNil))) eta M = .ok (itRgC 0 (b : Nat) (kN m b)) M := by
  have e : Builtin.Range.rangeSize 0 (m : Nat) (b : Nat) = ((kN m b : Nat) : Int) := by
    unfold Builtin.Range.rangeSize
    rw [if_pos (by omega), if_pos (by omega)]
    show ((m : Int) - 0 - 1) / (b : Int) + 1 = (((m - 1) / b + 1 : Nat) : Int)
    rw [show ((m : Int) - 0 - 1) = ((m - 1 : Nat) : Int) by omega]
    simp
  have hk : kN m b ≤ m := by
    have : (m - 1) / b ≤ m - 1 := Nat.div_le_self _ _
    show (m - 1) / b + 1 ≤ m
    omega
  have e63 : (2 : Int) ^ 63 = 9223372036854775808 := by decide
  have hs : Builtin.Range.small 0 (m : Nat) (b : Nat) = true := by
    unfold Builtin.Range.small
    rw [e, if_pos (by omega)]
    simp only [Builtin.Range.rangeFitsLong, Bool.and_eq_true, Bool.or_eq_true, decide_eq_true_eq, beq_iff_eq]
    omega
  simp only [itRange3, lCons, lNil, hx, hy, hz, Out.bind]
  rw [if_pos ⟨by omega, by omega, hs, by rw [e]; omega⟩, e, Int.toNat_natCast]
theorem str_ok {P : List Fn} {k i : Nat} (h : P[i]? = some ⟨3, 2, fun _ => cStr⟩) {m b : Nat} {M : Store} (h1 : 1 ≤ m) (h2 : m ≤ 100000) (h3 : 1 ≤ b) (h4 : b ≤ 100000) :
    tabOf P (k + 1) i [.int (m : Nat), .int (b : Nat)] M = .ok (.ref M.length) (M ++ [.lst (strD m b)]) := by
  rw [tab_at h rfl]
  show finS M (cStr [some (.int (m : Nat)), some (.int (b : Nat)), none] M) = _
  have hk : kN m b ≤ m := by
    have : (m - 1) / b ≤ m - 1 := Nat.div_le_self _ _
    show (m - 1) / b + 1 ≤ m
    omega
  have lc := lcG_rg (it := itRange3 (lCons (eC (.int 0)) (lCons (eVar 0) (lCons (eVar 1) (lNil))))) (j := 2) (f := cStrE) (eta := [some (.int (m : Nat)), some (.int (b : Nat)), none]) (M := M) (fun i => .tup [.int ((i * b : Nat) : Int), .int ((min (i * b + b) m : Nat) : Int)]) (rg3_ok h1 h2 h3 h4 rfl rfl rfl) (by omega)
    (fun i acc hi => by
      have e1 : (0 : Int) + (i : Int) * (b : Int) = ((i * b : Nat) : Int) := by rw [Int.natCast_mul]; omega
      rw [e1]
      refine tup_ok (l2_ok rfl (bL_ok (l2_ok (bi_ok (x := .int ((i * b : Nat) : Int)) (y := .int (b : Nat)) rfl rfl rfl) rfl) ?_)) (by simp [cap])
      show Out.ok (D.int (if (m : Int) < ((i * b : Nat) : Int) + (b : Int) then (m : Int) else ((i * b : Nat) : Int) + (b : Int))) _ = _
      congr 2
      split <;> omega)
  have e : cStr [some (.int (m : Nat)), some (.int (b : Nat)), none] M = .rt (.ref M.length) (M ++ [.lst (strD m b)]) := ret_ok lc
  rw [e]
  exact gc_new (Nat.le_refl _) (app_at _ _ _) rfl (lowL_strD _ _ _)

/-! ### filling -/
def cFill (i : Nat) (t : Tab) : EvS :=
  sSeq (sIf (tOf (eBin (dEq false) (eVar 0) (eTup (lNil)))) (sRet (eMl mPop (eVar 1) (lCons (eC (.int 0)) (lNil)))) (sSkip)) (sSeq (sAsg (.nm 2) (eCall t i (lCons (eBin dIx (eVar 0) (eC (.int 0))) (lCons (eVar 1) (lNil))))) (sRet (eTup (lCons (eVar 2) (lCons (eCall t i (lCons (eBin dIx (eVar 0) (eC (.int 1))) (lCons (eVar 1) (lNil)))) (lNil))))))
theorem fin_set {M : Store} {p : Nat} {o : MO} {d : D} (ho : o.low M.length = true) (hd : d.low M.length = true) : finS M (.rt d (M.set p o)) = .ok d (M.set p o) := by
  show gc M d (M.set p o) = _
  have hk : keptOk M.length M (M.set p o) = true := keptOk_of (by simp) fun j m q e1 e2 => by
    by_cases hj : p = j
    · subst hj
      have hl := (List.getElem?_eq_some_iff.mp e1).1
      rw [List.getElem?_set_self hl] at e2
      cases e2
      exact .inr ho
    · rw [List.getElem?_set_ne hj, e1] at e2
      exact .inl (Option.some.inj e2).symm
  unfold gc
  rw [if_pos hk, if_pos hd, show M.length = (M.set p o).length by simp, List.take_length]
theorem filled_ok {P : List Fn} {i : Nat} (h : P[i]? = some ⟨3, 2, cFill i⟩) : ∀ (sh : Sh) (k : Nat) (M : Store) (p : Nat) (ps : List Sh), M[p]? = some (.lst (ps.map Sh.toD)) → sh.sz ≤ ps.length →
    tabOf P (k + sh.sz) i [sh.toD, .ref p] M = .ok (fillR sh ps).1.toD (M.set p (.lst ((fillR sh ps).2.map Sh.toD)))
  | .lf, k, M, p, ps, hp, hl => by
    rw [show k + Sh.lf.sz = k + 1 by rfl, tab_at h rfl]
    generalize tabOf P k = T
    show finS M (cFill i T [some Sh.lf.toD, some (.ref p), none] M) = _
    match ps, hl with
    | x :: ps, hl =>
      have hpop : mPop (.ref p) [.int 0] M = .ok x.toD (M.set p (.lst (ps.map Sh.toD))) := by
        have hs : seqIndex? 0 (ps.map Sh.toD).length.succ = some 0 := by
          simp [seqIndex?]
        have hs' : seqIndex? 0 (x.toD :: ps.map Sh.toD).length = some 0 := hs
        rw [List.map_cons] at hp
        simp only [mPop, hp, hs', List.getElem?_cons_zero]
        rw [if_pos (by decide)]
        rfl
      have e : cFill i T [some Sh.lf.toD, some (.ref p), none] M = .rt x.toD (M.set p (.lst (ps.map Sh.toD))) := by
        unfold cFill
        refine seq_rt ((if_yes (tOf_ok (bi_ok (x := Sh.lf.toD) (y := Sh.lf.toD) rfl rfl ((dEq_sh (by decide)).trans rfl)))).trans ?_)
        exact ret_ok (ml_ok (x := .ref p) rfl (by simp only [isLst, hp]) (l1_ok rfl) hpop)
      rw [e]
      exact fin_set (lowL_sh _ _) (Sh.low _ _)
    | [], hl => simp [Sh.sz] at hl
  | .nd a b, k, M, p, ps, hp, hl => by
    have ha := a.sz_pos
    have hb := b.sz_pos
    rw [Sh.sz] at hl
    have ra := filled_ok h a (k + b.sz - 1) M p ps hp (by omega)
    have hrest := fillR_rest a ps (by omega)
    have rb := filled_ok h b (k + a.sz - 1) (M.set p (.lst ((fillR a ps).2.map Sh.toD))) p (fillR a ps).2 (by rw [List.getElem?_set_self (List.getElem?_eq_some_iff.mp hp).1]) (by rw [hrest, List.length_drop]; omega)
    rw [show k + b.sz - 1 + a.sz = k + a.sz + b.sz - 1 by omega] at ra
    rw [show k + a.sz - 1 + b.sz = k + a.sz + b.sz - 1 by omega] at rb
    rw [show k + (Sh.nd a b).sz = (k + a.sz + b.sz - 1) + 1 by rw [Sh.sz]; omega, tab_at h rfl]
    generalize tabOf P (k + a.sz + b.sz - 1) = T at ra rb ⊢
    show finS M (cFill i T [some (Sh.nd a b).toD, some (.ref p), none] M) = _
    rw [List.set_set] at rb
    have e : cFill i T [some (Sh.nd a b).toD, some (.ref p), none] M = .rt (fillR (.nd a b) ps).1.toD (M.set p (.lst ((fillR (.nd a b) ps).2.map Sh.toD))) := by
      unfold cFill
      refine (seq_nx (if_no (M1 := M) (tOf_ok (bi_ok (x := (Sh.nd a b).toD) (y := Sh.lf.toD) rfl rfl ((dEq_sh (by
        have : Sh.lf.sz = 1 := rfl
        omega)).trans rfl))))).trans ?_
      refine (seq_nx (asg_ok (callL_ok (l2_ok (bi_ok (x := (Sh.nd a b).toD) (y := .int 0) rfl rfl (dIx_tup (i := 0) rfl)) rfl) ra))).trans ?_
      exact ret_ok (tup_ok (l2_ok rfl (callL_ok (l2_ok (bi_ok (x := (Sh.nd a b).toD) (y := .int 1) rfl rfl (dIx_tup (i := 1) rfl)) rfl) rb)) (by simp [cap]))
    rw [e]
    exact fin_set (lowL_sh _ _) (Sh.low _ _)
end Ev

/-! Ev, part X: gluing, plain: sizes, brackets do not matter, unlike ones stay unlike. -/
namespace Ev
open PySem L2

/-- m lumps in stretches of b: their lengths -/
def cut (m b : Nat) : List Nat := if h : m ≤ b ∨ b = 0 then [m] else b :: cut (m - b) b
termination_by m
decreasing_by omega
theorem cut_one {m b : Nat} (h : m ≤ b) : cut m b = [m] := by rw [cut, dif_pos (.inl h)]
theorem cut_more {m b : Nat} (h : b < m) (hb : 1 ≤ b) : cut m b = b :: cut (m - b) b := by rw [cut, dif_neg (by omega)]
theorem kN_one {m b : Nat} (h1 : 1 ≤ m) (h : m ≤ b) : kN m b = 1 := by
  show (m - 1) / b + 1 = 1
  rw [Nat.div_eq_of_lt (by omega)]
theorem kN_more {m b : Nat} (h : b < m) (hb : 1 ≤ b) : kN m b = kN (m - b) b + 1 := by
  show (m - 1) / b + 1 = (m - b - 1) / b + 1 + 1
  have e : m - 1 = (m - b - 1) + b := by omega
  rw [e, Nat.add_div_right _ hb]
theorem cut_len : ∀ (n m b : Nat), m ≤ n → 1 ≤ m → 1 ≤ b → (cut m b).length = kN m b
  | 0, m, b, h, h1, _ => by omega
  | n + 1, m, b, h, h1, hb => by
    by_cases hm : m ≤ b
    · rw [cut_one hm, kN_one h1 hm]; rfl
    · rw [cut_more (by omega) hb, kN_more (by omega) hb, List.length_cons, cut_len n (m - b) b (by omega) (by omega) hb]
theorem cut_range : ∀ (n m b : Nat), m ≤ n → 1 ≤ m → 1 ≤ b → (List.range (kN m b)).map (fun i => min (i * b + b) m - i * b) = cut m b
  | 0, m, b, h, h1, _ => by omega
  | n + 1, m, b, h, h1, hb => by
    by_cases hm : m ≤ b
    · rw [cut_one hm, kN_one h1 hm]
      simp
      omega
    · rw [cut_more (by omega) hb, kN_more (by omega) hb, List.range_succ_eq_map, List.map_cons, List.map_map, ← cut_range n (m - b) b (by omega) (by omega) hb]
      congr 1
      · simp; omega
      · refine List.map_congr_left fun i _ => ?_
        show min ((i + 1) * b + b) m - (i + 1) * b = min (i * b + b) (m - b) - i * b
        have : (i + 1) * b = i * b + b := by rw [Nat.add_mul]; omega
        rw [this]
        omega
theorem cut_sum : ∀ (n m b : Nat), m ≤ n → 1 ≤ m → 1 ≤ b → (cut m b).sum = m
  | 0, m, b, h, h1, _ => by omega
  | n + 1, m, b, h, h1, hb => by
    by_cases hm : m ≤ b
    · rw [cut_one hm]; simp
    · rw [cut_more (by omega) hb, List.sum_cons, cut_sum n (m - b) b (by omega) (by omega) hb]; omega
theorem cut_mem : ∀ (n m b : Nat), m ≤ n → 1 ≤ m → 1 ≤ b → ∀ x ∈ cut m b, 1 ≤ x ∧ x ≤ b
  | 0, m, b, h, h1, _ => by omega
  | n + 1, m, b, h, h1, hb => fun x hx => by
    by_cases hm : m ≤ b
    · rw [cut_one hm] at hx
      rw [List.mem_singleton.mp hx]
      exact ⟨h1, hm⟩
    · rw [cut_more (by omega) hb] at hx
      rcases List.mem_cons.mp hx with e | e
      · omega
      · exact cut_mem n (m - b) b (by omega) (by omega) hb x e
theorem cut_times (b : Nat) (hb : 1 ≤ b) : ∀ c : Nat, 1 ≤ c → cut (b * c) b = List.replicate c b
  | 0, h => by omega
  | 1, _ => by rw [Nat.mul_one, cut_one (Nat.le_refl _)]; rfl
  | c + 2, _ => by
    have e : b * (c + 2) = b * (c + 1) + b := by rw [Nat.mul_add b (c + 1) 1, Nat.mul_one]
    have hp : 1 ≤ b * (c + 1) := Nat.mul_pos hb (Nat.succ_pos _)
    rw [cut_more (by omega) hb, e, Nat.add_sub_cancel, cut_times b hb (c + 1) (by omega)]
    rfl
/-- the first c stretches, then the others -/
theorem cut_skip (b : Nat) (hb : 1 ≤ b) : ∀ (c m : Nat), b * c < m → cut m b = List.replicate c b ++ cut (m - b * c) b
  | 0, m, _ => by rw [Nat.mul_zero, Nat.sub_zero]; rfl
  | c + 1, m, h => by
    have e : b * (c + 1) = b * c + b := by rw [Nat.mul_add, Nat.mul_one]
    rw [cut_more (by omega) hb, cut_skip b hb c (m - b) (by omega), List.replicate_succ, List.cons_append]
    congr 3
    omega

/-! ### gluing -/
def parts (s : Tb) (m : Nat) : List Sh := (cut m (tsz s)).map (ent s)
def glE (s t : Tb) (m : Nat) : Sh := fill (ent t (kN m (tsz s))) (parts s m)
def glue (s t : Tb) : Tb := (List.range (tsz s * tsz t - 1)).map fun j => glE s t (j + 2)
theorem tsz_pos (s : Tb) : 1 ≤ tsz s := Nat.succ_pos _
theorem glue_tsz (s t : Tb) : tsz (glue s t) = tsz s * tsz t := by
  show (glue s t).length + 1 = _
  unfold glue
  rw [List.length_map, List.length_range]
  have : 1 ≤ tsz s * tsz t := Nat.mul_pos (tsz_pos s) (tsz_pos t)
  omega
theorem glE_one (s t : Tb) : glE s t 1 = .lf := by
  unfold glE parts
  rw [kN_one (Nat.le_refl _) (tsz_pos s), cut_one (tsz_pos s)]
  rfl
theorem ent_glue {s t : Tb} {m : Nat} (h1 : 1 ≤ m) (h2 : m ≤ tsz s * tsz t) : ent (glue s t) m = glE s t m := by
  unfold ent
  by_cases hm : m = 1
  · subst hm; rw [if_pos rfl, glE_one]
  · rw [if_neg hm]
    unfold glue
    rw [List.getD_eq_getElem?_getD, List.getElem?_map, List.getElem?_range (by omega)]
    simp only [Option.map_some, Option.getD_some]
    rw [show m - 2 + 2 = m by omega]
theorem kN_le {m b c : Nat} (h1 : 1 ≤ m) (h2 : m ≤ b * c) : kN m b ≤ c := by
  show (m - 1) / b + 1 ≤ c
  have hb : 0 < b := by
    rcases Nat.eq_zero_or_pos b with h | h
    · subst h; omega
    · exact h
  have : (m - 1) / b < c := Nat.div_lt_of_lt_mul (by omega)
  omega
theorem parts_len {s : Tb} {m : Nat} (h1 : 1 ≤ m) : (parts s m).length = kN m (tsz s) := by
  unfold parts
  rw [List.length_map, cut_len m m _ (Nat.le_refl _) h1 (tsz_pos s)]
theorem parts_sz {s : Tb} (g : Good s) {m : Nat} (h1 : 1 ≤ m) : ((parts s m).map Sh.sz).sum = m := by
  unfold parts
  rw [List.map_map]
  have : (cut m (tsz s)).map (Sh.sz ∘ ent s) = cut m (tsz s) := by
    refine (List.map_congr_left fun x hx => ?_).trans (List.map_id _)
    obtain ⟨a, b⟩ := cut_mem m m _ (Nat.le_refl _) h1 (tsz_pos s) x hx
    exact g.sz a b
  rw [this, cut_sum m m _ (Nat.le_refl _) h1 (tsz_pos s)]
theorem glE_sz {s t : Tb} (gs : Good s) (gt : Good t) {m : Nat} (h1 : 1 ≤ m) (h2 : m ≤ tsz s * tsz t) : (glE s t m).sz = m := by
  unfold glE
  rw [fill_sz _ _ (by rw [parts_len h1, gt.sz (Nat.succ_pos _) (kN_le h1 h2)]), parts_sz gs h1]
theorem glue_good {s t : Tb} (gs : Good s) (gt : Good t) : Good (glue s t) := fun m h1 h2 => by
  rw [glue_tsz] at h2
  rw [ent_glue (by omega) h2, glE_sz gs gt (by omega) h2]

/-! ### brackets do not matter -/
def fillEach : List Sh → List Sh → List Sh
  | [], _ => []
  | T :: Ts, ps => fill T (ps.take T.sz) :: fillEach Ts (ps.drop T.sz)
theorem fillEach_app : ∀ (A B : List Sh) (ps : List Sh), fillEach (A ++ B) ps = fillEach A ps ++ fillEach B (ps.drop (A.map Sh.sz).sum)
  | [], B, ps => by simp [fillEach]
  | a :: A, B, ps => by
    simp only [List.cons_append, fillEach, fillEach_app A B, List.map_cons, List.sum_cons, List.drop_drop]
theorem fillEach_take : ∀ (A : List Sh) (ps : List Sh) (n : Nat), (A.map Sh.sz).sum ≤ n → fillEach A (ps.take n) = fillEach A ps
  | [], _, _, _ => rfl
  | a :: A, ps, n, h => by
    rw [List.map_cons, List.sum_cons] at h
    simp only [fillEach]
    rw [List.take_take, Nat.min_eq_left (by omega), List.drop_take, fillEach_take A (ps.drop a.sz) (n - a.sz) (by omega)]
theorem fill_fill : ∀ (U : Sh) (Ts ps : List Sh), Ts.length = U.sz → ps.length = (Ts.map Sh.sz).sum → fill (fill U Ts) ps = fill U (fillEach Ts ps)
  | .lf, Ts, ps, h, h2 => by
    match Ts, h with
    | [T], _ =>
      rw [List.map_cons, List.map_nil, List.sum_cons, List.sum_nil, Nat.add_zero] at h2
      show fill T ps = fill T (ps.take T.sz)
      rw [List.take_of_length_le (by omega)]
  | .nd a b, Ts, ps, h, h2 => by
    rw [Sh.sz] at h
    have l1 : (Ts.take a.sz).length = a.sz := by rw [List.length_take]; omega
    have l2 : (Ts.drop a.sz).length = b.sz := by rw [List.length_drop]; omega
    have hs := sum_split Ts a.sz
    have sa : (fill a Ts).sz = ((Ts.take a.sz).map Sh.sz).sum := by rw [fill_take (by omega), fill_sz a _ l1]
    have fe : ∀ (A B qs : List Sh), (fillEach (A ++ B) qs).take A.length = fillEach A qs ∧ (fillEach (A ++ B) qs).drop A.length = fillEach B (qs.drop (A.map Sh.sz).sum) := fun A B qs => by
      have hl : ∀ (A qs : List Sh), (fillEach A qs).length = A.length := fun A => by
        induction A with
        | nil => intro qs; rfl
        | cons x A ih => intro qs; simp only [fillEach, List.length_cons, ih]
      rw [fillEach_app]
      exact ⟨by rw [List.take_append_of_le_length (by rw [hl]; exact Nat.le_refl _), List.take_of_length_le (by rw [hl]; exact Nat.le_refl _)], by
        have := hl A qs
        rw [← this, List.drop_left]⟩
    have hl : (fillEach Ts ps).length = Ts.length := by
      have hl : ∀ (A qs : List Sh), (fillEach A qs).length = A.length := fun A => by
        induction A with
        | nil => intro qs; rfl
        | cons x A ih => intro qs; simp only [fillEach, List.length_cons, ih]
      exact hl _ _
    have eT : Ts = Ts.take a.sz ++ Ts.drop a.sz := (List.take_append_drop _ _).symm
    obtain ⟨f1, f2⟩ := fe (Ts.take a.sz) (Ts.drop a.sz) ps
    rw [← eT, l1] at f1 f2
    rw [fill_nd (a := a) (b := b) (ps := Ts) (by omega), fill_nd (by rw [sa, h2]; omega), fill_nd (a := a) (b := b) (by rw [hl]; omega), f2, sa]
    congr 1
    · rw [fill_take (s := a) (ps := Ts) (by omega), fill_take (s := a) (ps := fillEach Ts ps) (by rw [hl]; omega), f1, ← fillEach_take _ ps _ (Nat.le_refl _), ← fill_fill a (Ts.take a.sz) (ps.take ((Ts.take a.sz).map Sh.sz).sum) l1 (by rw [List.length_take, h2]; omega)]
      rw [fill_take (s := fill a (Ts.take a.sz)) (ps := ps) (by rw [fill_sz a _ l1, h2]; omega), fill_sz a _ l1]
    · exact fill_fill b (Ts.drop a.sz) (ps.drop ((Ts.take a.sz).map Sh.sz).sum) l2 (by rw [List.length_drop, h2]; omega)

theorem parts_skip (s : Tb) (c m : Nat) (h : tsz s * c < m) : parts s m = List.replicate c (ent s (tsz s)) ++ parts s (m - tsz s * c) := by
  unfold parts
  rw [cut_skip (tsz s) (tsz_pos s) c m h, List.map_append, List.map_replicate]
theorem kN_skip (b : Nat) (hb : 1 ≤ b) : ∀ (c m : Nat), b * c < m → kN m b = c + kN (m - b * c) b
  | 0, m, _ => by rw [Nat.mul_zero, Nat.sub_zero, Nat.zero_add]
  | c + 1, m, h => by
    have e : b * (c + 1) = b * c + b := by rw [Nat.mul_add, Nat.mul_one]
    rw [kN_more (by omega) hb, kN_skip b hb c (m - b) (by omega), show m - b - b * c = m - b * (c + 1) by omega]
    omega
/-- stretches of stretches -/
theorem glue_parts {s t : Tb} (gt : Good t) : ∀ (n m : Nat), m ≤ n → 1 ≤ m → (cut m (tsz s * tsz t)).map (glE s t) = fillEach ((cut (kN m (tsz s)) (tsz t)).map (ent t)) (parts s m)
  | 0, m, h, h1 => by omega
  | n + 1, m, h, h1 => by
    have hp : 1 ≤ tsz s * tsz t := Nat.mul_pos (tsz_pos s) (tsz_pos t)
    by_cases hm : m ≤ tsz s * tsz t
    · rw [cut_one hm, cut_one (kN_le h1 hm)]
      simp only [List.map_cons, List.map_nil, fillEach]
      rw [gt.sz (Nat.succ_pos _) (kN_le h1 hm), List.take_of_length_le (by rw [parts_len h1]; exact Nat.le_refl _)]
      rfl
    · have hk := kN_skip (tsz s) (tsz_pos s) (tsz t) m (by omega)
      have hk1 : 1 ≤ kN (m - tsz s * tsz t) (tsz s) := Nat.succ_pos _
      rw [cut_more (by omega) hp, hk, cut_more (m := tsz t + kN (m - tsz s * tsz t) (tsz s)) (by omega) (tsz_pos t), Nat.add_sub_cancel_left, parts_skip s (tsz t) m (by omega)]
      simp only [List.map_cons, fillEach]
      have ht : (ent t (tsz t)).sz = tsz t := gt.sz (tsz_pos t) (Nat.le_refl _)
      rw [ht, List.take_append_of_le_length (by rw [List.length_replicate]; exact Nat.le_refl _), List.take_of_length_le (by rw [List.length_replicate]; exact Nat.le_refl _)]
      rw [show List.drop (tsz t) (List.replicate (tsz t) (ent s (tsz s)) ++ parts s (m - tsz s * tsz t)) = parts s (m - tsz s * tsz t) by
        have := List.drop_left (l₁ := List.replicate (tsz t) (ent s (tsz s))) (l₂ := parts s (m - tsz s * tsz t))
        rwa [List.length_replicate] at this]
      rw [← glue_parts gt n (m - tsz s * tsz t) (by omega) (by omega)]
      congr 1
      unfold glE parts
      rw [cut_times (tsz s) (tsz_pos s) (tsz t) (tsz_pos t), List.map_replicate]
      congr 2
      have hl := cut_len (tsz s * tsz t) (tsz s * tsz t) (tsz s) (Nat.le_refl _) hp (tsz_pos s)
      rw [cut_times (tsz s) (tsz_pos s) (tsz t) (tsz_pos t), List.length_replicate] at hl
      exact hl.symm
theorem kN_kN {m b c : Nat} (h1 : 1 ≤ m) (hb : 1 ≤ b) (hc : 1 ≤ c) : kN (kN m b) c = kN m (b * c) := by
  show (((m - 1) / b + 1) - 1) / c + 1 = (m - 1) / (b * c) + 1
  rw [Nat.add_sub_cancel, Nat.div_div_eq_div_mul]
theorem glue_assoc {s t u : Tb} (gs : Good s) (gt : Good t) (gu : Good u) : glue (glue s t) u = glue s (glue t u) := by
  show (List.range (tsz (glue s t) * tsz u - 1)).map (fun j => glE (glue s t) u (j + 2)) = (List.range (tsz s * tsz (glue t u) - 1)).map (fun j => glE s (glue t u) (j + 2))
  have e : tsz (glue s t) * tsz u = tsz s * tsz (glue t u) := by rw [glue_tsz, glue_tsz, Nat.mul_assoc]
  rw [e]
  refine List.map_congr_left fun j hj => ?_
  have hj' := List.mem_range.mp hj
  have hm2 : j + 2 ≤ tsz s * tsz (glue t u) := by omega
  have h1 : 1 ≤ j + 2 := by omega
  generalize j + 2 = m at hm2 h1 ⊢
  have hk : 1 ≤ kN m (tsz s) := Nat.succ_pos _
  have hkle : kN m (tsz s) ≤ tsz t * tsz u := by
    have := kN_le (b := tsz s) (c := tsz (glue t u)) h1 hm2
    rwa [glue_tsz] at this
  have left : glE (glue s t) u m = fill (ent u (kN m (tsz s * tsz t))) (fillEach ((cut (kN m (tsz s)) (tsz t)).map (ent t)) (parts s m)) := by
    unfold glE
    rw [glue_tsz]
    congr 1
    rw [← glue_parts gt m m (Nat.le_refl _) h1]
    unfold parts
    rw [glue_tsz]
    refine List.map_congr_left fun x hx => ?_
    obtain ⟨a, b⟩ := cut_mem m m _ (Nat.le_refl _) h1 (Nat.mul_pos (tsz_pos s) (tsz_pos t)) x hx
    exact ent_glue a b
  rw [left]
  unfold glE
  rw [ent_glue hk hkle]
  unfold glE
  rw [fill_fill _ (parts t (kN m (tsz s))) (parts s m) (by
    rw [parts_len hk, gu.sz (Nat.succ_pos _) (kN_le hk hkle)]) (by rw [parts_sz gt hk, parts_len h1]), kN_kN h1 (tsz_pos s) (tsz_pos t)]
  rfl

/-! ### rows of tables -/
abbrev glued (s : Tb) (L : List Tb) : Tb := L.foldl glue s
theorem glued_good : ∀ {L : List Tb} {s : Tb}, Good s → (∀ x ∈ L, Good x) → Good (glued s L)
  | [], _, h, _ => h
  | x :: L, s, h, hL => glued_good (L := L) (s := glue s x) (glue_good h (hL x (List.mem_cons_self ..))) fun y hy => hL y (List.mem_cons_of_mem _ hy)
theorem glued_glue : ∀ {L : List Tb} {s t : Tb}, Good s → Good t → (∀ x ∈ L, Good x) → glued (glue s t) L = glue s (glued t L)
  | [], _, _, _, _, _ => rfl
  | x :: L, s, t, gs, gt, hL => by
    have gx := hL x (List.mem_cons_self ..)
    show glued (glue (glue s t) x) L = glue s (glued (glue t x) L)
    rw [glue_assoc gs gt gx]
    exact glued_glue gs (glue_good gt gx) fun y hy => hL y (List.mem_cons_of_mem _ hy)
theorem glued_split {A B : List Tb} {s y : Tb} (gs : Good s) (gA : ∀ x ∈ A, Good x) (gy : Good y) (gB : ∀ x ∈ B, Good x) : glued s (A ++ y :: B) = glue (glued s A) (glued y B) := by
  show (A ++ y :: B).foldl glue s = _
  rw [List.foldl_append]
  show glued (glue (glued s A) y) B = _
  exact glued_glue (glued_good gs gA) gy gB
theorem glued_pair {A B : List Tb} {s x y : Tb} (gs : Good s) (gA : ∀ x ∈ A, Good x) (gx : Good x) (gy : Good y) : glued s (A ++ glue x y :: B) = glued s (A ++ x :: y :: B) := by
  show (A ++ glue x y :: B).foldl glue s = (A ++ x :: y :: B).foldl glue s
  rw [List.foldl_append, List.foldl_append]
  show glued (glue (glued s A) (glue x y)) B = glued (glue (glue (glued s A) x) y) B
  rw [glue_assoc (glued_good gs gA) gx gy]
theorem glued_tsz : ∀ (L : List Tb) (s : Tb), tsz (glued s L) = tsz s * (L.map tsz).prod
  | [], s => by simp
  | x :: L, s => by
    show tsz (glued (glue s x) L) = _
    rw [glued_tsz L (glue s x), glue_tsz, List.map_cons, List.prod_cons, Nat.mul_assoc]

/-! ### unlike tables stay unlike -/
theorem tb_ext {s t : Tb} (hl : s.length = t.length) (h : ∀ m, 2 ≤ m → m ≤ tsz s → ent s m = ent t m) : s = t := by
  apply List.ext_getElem hl
  intro i h1 h2
  have ht : tsz s = s.length + 1 := rfl
  have := h (i + 2) (by omega) (by omega)
  unfold ent at this
  rw [if_neg (by omega), if_neg (by omega), show i + 2 - 2 = i by omega, List.getD_eq_getElem?_getD, List.getD_eq_getElem?_getD, List.getElem?_eq_getElem h1, List.getElem?_eq_getElem h2] at this
  simpa using this
theorem glE_low {s t : Tb} {m : Nat} (h1 : 1 ≤ m) (h2 : m ≤ tsz s) : glE s t m = ent s m := by
  unfold glE parts
  rw [kN_one h1 h2, cut_one h2]
  rfl
theorem glue_inj_left {s s' t : Tb} (hl : s.length = s'.length) : glue s t = glue s' t ↔ s = s' := by
  constructor
  · intro h
    refine tb_ext hl fun m h1 h2 => ?_
    have e : tsz s = tsz s' := by show s.length + 1 = s'.length + 1; rw [hl]
    have hm : m ≤ tsz s * tsz t := Nat.le_trans h2 (Nat.le_mul_of_pos_right _ (tsz_pos t))
    have this : ent (glue s t) m = ent (glue s' t) m := congrArg (fun q => ent q m) h
    rw [ent_glue (by omega) hm, ent_glue (by omega) (by rw [← e]; exact hm), glE_low (by omega) h2, glE_low (by omega) (by rw [← e]; exact h2)] at this
    exact this
  · intro h; rw [h]
theorem sum_rep (x : Nat) : ∀ n : Nat, (List.replicate n x).sum = n * x
  | 0 => by simp
  | n + 1 => by rw [List.replicate_succ, List.sum_cons, sum_rep x n, Nat.add_mul]; omega
theorem rep_sz (P : Sh) (A : Sh) (n : Nat) (h : A.sz ≤ n) : (fill A (List.replicate n P)).sz = A.sz * P.sz := by
  rw [fill_take (by rw [List.length_replicate]; exact h), fill_sz _ _ (by rw [List.length_take, List.length_replicate]; omega), List.take_replicate, List.map_replicate, sum_rep, Nat.min_eq_left h]
theorem rep_inj (P : Sh) : ∀ (A B : Sh) (n : Nat), A.sz ≤ n → B.sz ≤ n → fill A (List.replicate n P) = fill B (List.replicate n P) → A = B := by
  have key : ∀ (A B : Sh) (n : Nat), A.sz ≤ n → B.sz ≤ n → fill A (List.replicate n P) = fill B (List.replicate n P) → A.sz = B.sz := fun A B n h1 h2 h => by
    have e := congrArg Sh.sz h
    rw [rep_sz P A n h1, rep_sz P B n h2] at e
    exact Nat.eq_of_mul_eq_mul_right P.sz_pos e
  intro A
  induction A with
  | lf =>
    intro B n h1 h2 h
    have e := key _ _ n h1 h2 h
    cases B with
    | lf => rfl
    | nd c d =>
      have := c.sz_pos
      have := d.sz_pos
      simp only [Sh.sz] at e
      omega
  | nd a b iha ihb =>
    intro B n h1 h2 h
    have e := key _ _ n h1 h2 h
    cases B with
    | lf =>
      have := a.sz_pos
      have := b.sz_pos
      simp only [Sh.sz] at e
      omega
    | nd c d =>
      have hb := b.sz_pos
      have hd := d.sz_pos
      rw [Sh.sz] at h1 h2
      rw [fill_nd (by rw [List.length_replicate]; omega), fill_nd (by rw [List.length_replicate]; omega)] at h
      injection h with e1 e2
      have hac := iha c n (by omega) (by omega) e1
      subst hac
      rw [List.drop_replicate] at e2
      rw [ihb d (n - a.sz) (by omega) (by omega) e2]
theorem glue_inj_right {s s' t : Tb} (gs : Good s) (gs' : Good s') (hl : s.length = s'.length) : glue t s = glue t s' ↔ s = s' := by
  constructor
  · intro h
    refine tb_ext hl fun k h1 h2 => ?_
    have e : tsz s = tsz s' := by show s.length + 1 = s'.length + 1; rw [hl]
    have hm : tsz t * k ≤ tsz t * tsz s := Nat.mul_le_mul_left _ h2
    have hp : 1 ≤ tsz t * k := Nat.mul_pos (tsz_pos t) (by omega)
    have this : ent (glue t s) (tsz t * k) = ent (glue t s') (tsz t * k) := congrArg (fun q => ent q (tsz t * k)) h
    rw [ent_glue hp hm, ent_glue hp (by rw [← e]; exact hm)] at this
    have hk : kN (tsz t * k) (tsz t) = k := by
      have hl := cut_len (tsz t * k) (tsz t * k) (tsz t) (Nat.le_refl _) hp (tsz_pos t)
      rw [cut_times (tsz t) (tsz_pos t) k (by omega), List.length_replicate] at hl
      exact hl.symm
    unfold glE parts at this
    rw [hk, cut_times (tsz t) (tsz_pos t) k (by omega), List.map_replicate] at this
    exact rep_inj _ _ _ k (by rw [gs.sz (by omega) h2]; exact Nat.le_refl _) (by rw [gs'.sz (by omega) (by rw [← e]; exact h2)]; exact Nat.le_refl _) this
  · intro h; rw [h]
end Ev

/-! Ev, part W: the gluing defs and the drawing ones, in whatever program they stand. -/
namespace Ev
open PySem L2

/-! ### gluing -/
def cGeE (iE : Nat) (t : Tab) : EvE := eCall t iE (lCons (eVar 0) (lCons (eBin dSub (eVar 5) (eVar 4)) (lNil)))
def cGe (iTs iE iStr iF : Nat) (t : Tab) : EvS :=
  sSeq (sAsg (.nm 3) (eLc (itE (eCall t iStr (lCons (eVar 2) (lCons (eCall t iTs (lCons (eVar 0) (lNil))) (lNil))))) (.tp [.nm 4, .nm 5]) [4, 5] (tYesE) (cGeE iE t))) (sRet (eCall t iF (lCons (eCall t iE (lCons (eVar 1) (lCons (eB bLen (lCons (eVar 3) (lNil))) (lNil)))) (lCons (eVar 3) (lNil)))))
def cGlE (iGe : Nat) (t : Tab) : EvE := eCall t iGe (lCons (eVar 0) (lCons (eVar 1) (lCons (eVar 2) (lNil))))
def cGl (iTs iGe : Nat) (t : Tab) : EvS :=
  sRet (eB bTuple (lCons (eLc (itRange2 (lCons (eC (.int 2)) (lCons (eBin dAdd (eBin dMulA (eCall t iTs (lCons (eVar 0) (lNil))) (eCall t iTs (lCons (eVar 1) (lNil)))) (eC (.int 1))) (lNil)))) (.nm 2) [2] (tYesE) (cGlE iGe t)) (lNil)))
def cGdB (iGl : Nat) (t : Tab) : EvS := sAsg (.nm 1) (eCall t iGl (lCons (eVar 1) (lCons (eVar 2) (lNil))))
def cGd (iGl : Nat) (t : Tab) : EvS :=
  sSeq (sAsg (.nm 1) (eBin dIx (eVar 0) (eC (.int 0)))) (sSeq (sFor (itE (eCut (eVar 0) (oSome (eC (.int 1))) oNone)) (.nm 2) (cGdB iGl t)) (sRet (eVar 1)))
structure Lib (P : List Fn) (iTs iE iStr iF iGe iGl iGd : Nat) : Prop where
  ts : P[iTs]? = some ⟨1, 1, fun _ => cTs⟩
  e : P[iE]? = some ⟨2, 2, fun _ => cEnt⟩
  str : P[iStr]? = some ⟨3, 2, fun _ => cStr⟩
  f : P[iF]? = some ⟨3, 2, cFill iF⟩
  ge : P[iGe]? = some ⟨6, 3, cGe iTs iE iStr iF⟩
  gl : P[iGl]? = some ⟨3, 2, cGl iTs iGe⟩
  gd : P[iGd]? = some ⟨3, 1, cGd iGl⟩
section
variable {P : List Fn} {iTs iE iStr iF iGe iGl iGd : Nat}
theorem ge_ok (A : Lib P iTs iE iStr iF iGe iGl iGd) {L : Nat} {s t : Tb} {m : Nat} {M : Store} (gt : Good t) (hL : tsz t ≤ L) (h1 : 1 ≤ m) (h2 : m ≤ tsz s * tsz t) (h3 : m ≤ 100000) (h4 : tsz s ≤ 100000) :
    tabOf P (L + 1) iGe [tbD s, tbD t, .int (m : Nat)] M = .ok (glE s t m).toD M := by
  have hk := kN_le h1 h2
  have hk1 : 1 ≤ kN m (tsz s) := Nat.succ_pos _
  have hsz := gt.sz hk1 hk
  have hts := tsz_pos s
  obtain ⟨K, hK⟩ : ∃ K, L = K + 1 := ⟨L - 1, by have := tsz_pos t; omega⟩
  have eTs : ∀ M, tabOf P L iTs [tbD s] M = .ok (.int (tsz s : Nat)) M := fun M => by rw [hK]; exact ts_ok A.ts
  have eE : ∀ (s : Tb) (m : Nat) (M : Store), 1 ≤ m → m ≤ tsz s → tabOf P L iE [tbD s, .int (m : Nat)] M = .ok (ent s m).toD M := fun s m M a b => by rw [hK]; exact ent_ok A.e a b
  have eS : ∀ M, tabOf P L iStr [.int (m : Nat), .int (tsz s : Nat)] M = .ok (.ref M.length) (M ++ [.lst (strD m (tsz s))]) := fun M => by rw [hK]; exact str_ok A.str h1 h3 hts h4
  have eF : ∀ (sh : Sh) (M : Store) (p : Nat) (ps : List Sh), M[p]? = some (.lst (ps.map Sh.toD)) → sh.sz ≤ ps.length → sh.sz ≤ L → tabOf P L iF [sh.toD, .ref p] M = .ok (fillR sh ps).1.toD (M.set p (.lst ((fillR sh ps).2.map Sh.toD))) := fun sh M p ps a b c => by
    have := filled_ok A.f sh (L - sh.sz) M p ps a b
    rwa [show L - sh.sz + sh.sz = L by omega] at this
  rw [tab_at A.ge rfl]
  generalize tabOf P L = T at eTs eE eS eF ⊢
  show finS M (cGe iTs iE iStr iF T [some (tbD s), some (tbD t), some (.int (m : Nat)), none, none, none] M) = _
  have hcr := cut_range m m (tsz s) (Nat.le_refl _) h1 hts
  have hlen : (strD m (tsz s)).length = kN m (tsz s) := by unfold strD; rw [List.length_map, List.length_range]
  have hkm : kN m (tsz s) ≤ m := by
    have : (m - 1) / tsz s ≤ m - 1 := Nat.div_le_self _ _
    show (m - 1) / tsz s + 1 ≤ m
    omega
  obtain ⟨S1, hS1⟩ : ∃ S1, S1 = M ++ [MO.lst (strD m (tsz s))] := ⟨_, rfl⟩
  have l1 : S1.length = M.length + 1 := by rw [hS1]; simp
  have lc := lcG_list (e := eCall T iStr (lCons (eVar 2) (lCons (eCall T iTs (lCons (eVar 0) (lNil))) (lNil)))) (n := M.length) (t := .tp [.nm 4, .nm 5]) (vs := [4, 5]) (f := cGeE iE T) (eta := [some (tbD s), some (tbD t), some (.int (m : Nat)), none, none, none]) (M := M) (M1 := S1) (strD m (tsz s)) (fun i => (ent s (min (i * tsz s + tsz s) m - i * tsz s)).toD)
    (callL_ok (l2_ok rfl (callL_ok (l1_ok rfl) (eTs M))) ((eS M).trans (by rw [hS1]))) (by rw [hS1]; exact app_at _ _ _) (by rw [hlen]; omega) (fun i d acc hd => by
      unfold strD at hd
      rw [List.getElem?_map] at hd
      obtain ⟨j, hj, rfl⟩ := Option.map_eq_some_iff.mp hd
      have hj1 := (List.getElem?_eq_some_iff.mp hj).1
      rw [List.length_range] at hj1
      have hj2 : j = i := by rw [List.getElem?_range hj1] at hj; exact (Option.some.inj hj).symm
      subst hj2
      refine ⟨[some (tbD s), some (tbD t), some (.int (m : Nat)), none, some (.int ((j * tsz s : Nat) : Int)), some (.int ((min (j * tsz s + tsz s) m : Nat) : Int))], by simp only [asg, asgs, partsD]; rfl, ?_⟩
      have hlt : j * tsz s < m := by
        have h0 : j ≤ (m - 1) / tsz s := by
          have : j < (m - 1) / tsz s + 1 := hj1
          omega
        have := (Nat.le_div_iff_mul_le hts).mp h0
        omega
      refine callL_ok (l2_ok rfl (bi_ok (x := .int ((min (j * tsz s + tsz s) m : Nat) : Int)) (y := .int ((j * tsz s : Nat) : Int)) rfl rfl ?_)) (eE s (min (j * tsz s + tsz s) m - j * tsz s) _ (by omega) (by
        have : tsz s = s.length + 1 := rfl
        omega))
      show Out.ok (D.int (((min (j * tsz s + tsz s) m : Nat) : Int) - ((j * tsz s : Nat) : Int))) _ = _
      rw [show (((min (j * tsz s + tsz s) m : Nat) : Int) - ((j * tsz s : Nat) : Int)) = ((min (j * tsz s + tsz s) m - j * tsz s : Nat) : Int) by omega])
  have ep : (List.range (strD m (tsz s)).length).map (fun i => (ent s (min (i * tsz s + tsz s) m - i * tsz s)).toD) = (parts s m).map Sh.toD := by
    rw [hlen]
    unfold parts
    rw [← hcr, List.map_map, List.map_map]
    rfl
  rw [ep] at lc
  obtain ⟨S2, hS2⟩ : ∃ S2, S2 = S1 ++ [MO.lst ((parts s m).map Sh.toD)] := ⟨_, rfl⟩
  rw [← hS2] at lc
  have a2 : S2[S1.length]? = some (.lst ((parts s m).map Sh.toD)) := by rw [hS2]; exact app_at _ _ _
  have hbl : bLen [.ref S1.length] S2 = .ok (.int ((kN m (tsz s) : Nat) : Int)) S2 := by
    simp only [bLen, a2]
    rw [List.length_map, parts_len h1]
  have eR := eF (ent t (kN m (tsz s))) S2 S1.length (parts s m) a2 (by rw [hsz, parts_len h1]; exact Nat.le_refl _) (by rw [hsz]; exact Nat.le_trans hk hL)
  have e : cGe iTs iE iStr iF T [some (tbD s), some (tbD t), some (.int (m : Nat)), none, none, none] M = .rt (glE s t m).toD (S2.set S1.length (.lst ((fillR (ent t (kN m (tsz s))) (parts s m)).2.map Sh.toD))) := by
    unfold cGe
    refine (seq_nx (asg_ok lc)).trans ?_
    exact ret_ok (callL_ok (l2_ok (callL_ok (l2_ok rfl (bL_ok (l1_ok rfl) hbl)) (eE t _ S2 hk1 hk)) rfl) eR)
  rw [e, hS2, app_set' rfl, hS1, List.append_assoc]
  exact fin_dat (Sh.low _ _)
theorem glue_ok (A : Lib P iTs iE iStr iF iGe iGl iGd) {L : Nat} {s t : Tb} {M : Store} (gt : Good t) (hL : tsz t ≤ L) (hp : tsz s * tsz t ≤ 900) : tabOf P (L + 2) iGl [tbD s, tbD t] M = .ok (tbD (glue s t)) M := by
  have hst := tsz_pos s
  have htt := tsz_pos t
  have hs9 : tsz s ≤ 900 := Nat.le_trans (Nat.le_mul_of_pos_right _ htt) hp
  have ht9 : tsz t ≤ 900 := Nat.le_trans (Nat.le_mul_of_pos_left _ hst) hp
  have eTs : ∀ (s : Tb) (M : Store), tabOf P (L + 1) iTs [tbD s] M = .ok (.int (tsz s : Nat)) M := fun s M => ts_ok A.ts
  have eG : ∀ (m : Nat) (M : Store), 1 ≤ m → m ≤ tsz s * tsz t → tabOf P (L + 1) iGe [tbD s, tbD t, .int (m : Nat)] M = .ok (glE s t m).toD M := fun m M a b => ge_ok A gt hL a b (by omega) (by omega)
  rw [tab_at A.gl rfl]
  generalize tabOf P (L + 1) = T at eTs eG ⊢
  show finS M (cGl iTs iGe T [some (tbD s), some (tbD t), none] M) = _
  have hmul : dMulA (.int (tsz s : Nat)) (.int (tsz t : Nat)) M = .ok (.int ((tsz s * tsz t : Nat) : Int)) M := by
    have e64 : (2 : Int) ^ 64 = 18446744073709551616 := by decide
    have hm : mulOk (tsz s : Nat) (tsz t : Nat) = true := mul1 (by omega)
    simp only [dMulA, dMul, hm, if_true]
    rw [Int.natCast_mul]
  have hrg : itRange2 (lCons (eC (.int 2)) (lCons (eBin dAdd (eBin dMulA (eCall T iTs (lCons (eVar 0) (lNil))) (eCall T iTs (lCons (eVar 1) (lNil)))) (eC (.int 1))) (lNil))) [some (tbD s), some (tbD t), none] M = .ok (itRg 2 (tsz s * tsz t - 1)) M :=
    (range2_ok (i := 2) (j := ((tsz s * tsz t : Nat) : Int) + 1) rfl (bi_ok (y := .int 1) (bi_ok (callL_ok (l1_ok rfl) (eTs s M)) (callL_ok (l1_ok rfl) (eTs t M)) hmul) rfl rfl) (by omega)).trans (by
      rw [show (((tsz s * tsz t : Nat) : Int) + 1 - 2).toNat = tsz s * tsz t - 1 by omega])
  have lc := lcG_rg1 (it := itRange2 (lCons (eC (.int 2)) (lCons (eBin dAdd (eBin dMulA (eCall T iTs (lCons (eVar 0) (lNil))) (eCall T iTs (lCons (eVar 1) (lNil)))) (eC (.int 1))) (lNil)))) (j := 2) (f := cGlE iGe T) (eta := [some (tbD s), some (tbD t), none]) (M := M) (fun j => (glE s t (j + 2)).toD) hrg (by omega)
    (fun i acc hi => callL_ok (lc_ok rfl (l2_ok rfl rfl)) (by
      rw [show (2 : Int) + (i : Int) = ((i + 2 : Nat) : Int) by omega]
      exact eG (i + 2) _ (by omega) (by omega)))
  have e : cGl iTs iGe T [some (tbD s), some (tbD t), none] M = .rt (tbD (glue s t)) (M ++ [.lst ((List.range (tsz s * tsz t - 1)).map fun j => (glE s t (j + 2)).toD)]) := by
    unfold cGl
    refine ret_ok (bL_ok (l1_ok lc) ?_)
    simp only [bTuple, liveAt, app_at]
    unfold tbD glue
    rw [List.map_map]
    rfl
  rw [e]
  exact fin_dat (tb_low _ _)
theorem cut_tail {d : D} {ds : List D} : cutD (d :: ds) (some 1) none = ds := by
  unfold cutD
  have e1 : HT.sIx (d :: ds).length 0 (some 1) = 1 := by simp [HT.sIx]
  have e2 : HT.sIx (d :: ds).length (d :: ds).length none = (d :: ds).length := by simp [HT.sIx]
  rw [e1, e2, List.drop_succ_cons, List.drop_zero, List.take_of_length_le (by simp)]
theorem glued_ok (A : Lib P iTs iE iStr iF iGe iGl iGd) {L p : Nat} {s : Tb} {R : List Tb} {M : Store} (hm : M[p]? = some (.lst ((s :: R).map tbD))) (gR : ∀ x ∈ R, Good x) (hLs : ∀ x ∈ R, tsz x ≤ L) (hp : tsz s * (R.map tsz).prod ≤ 900) (hR : R.length ≤ 1000) :
    tabOf P (L + 3) iGd [.ref p] M = .ok (tbD (glued s R)) M := by
  have eG : ∀ (s t : Tb) (M : Store), Good t → tsz t ≤ L → tsz s * tsz t ≤ 900 → tabOf P (L + 2) iGl [tbD s, tbD t] M = .ok (tbD (glue s t)) M := fun s t M a b c => glue_ok A a b c
  rw [tab_at A.gd rfl]
  generalize tabOf P (L + 2) = T at eG ⊢
  show finS M (cGd iGl T [some (.ref p), none, none] M) = _
  obtain ⟨S1, hS1⟩ : ∃ S1, S1 = M ++ [MO.lst (R.map tbD)] := ⟨_, rfl⟩
  have a1 : S1[M.length]? = some (.lst (R.map tbD)) := by rw [hS1]; exact app_at _ _ _
  have e1 : eBin dIx (eVar 0) (eC (.int 0)) [some (.ref p), none, none] M = .ok (tbD s) M := bi_ok (x := .ref p) (y := .int 0) rfl rfl (dIx_list (i := 0) hm rfl)
  have e2 : itE (eCut (eVar 0) (oSome (eC (.int 1))) oNone) [some (.ref p), some (tbD s), none] M = .ok (itLive M.length) S1 := by
    have : eCut (eVar 0) (oSome (eC (.int 1))) oNone [some (.ref p), some (tbD s), none] M = .ok (.ref M.length) S1 := by
      show dCut (.ref p) (some 1) none M = _
      rw [List.map_cons] at hm
      simp only [dCut, hm, cut_tail]
      rw [hS1]
    simp only [itE, this, Out.bind, itD, liveAt, a1]
  have hpr : ∀ i, i < R.length → tsz (glued s (R.take i)) * tsz (R.getD i []) ≤ 900 := fun i hi => by
    rw [glued_tsz]
    have e : R = R.take i ++ R[i] :: R.drop (i + 1) := by rw [← List.drop_eq_getElem_cons hi, List.take_append_drop]
    have hg : R.getD i [] = R[i] := by simp [List.getD_eq_getElem?_getD, List.getElem?_eq_getElem hi]
    rw [hg]
    have hprod : (R.map tsz).prod = ((R.take i).map tsz).prod * (tsz R[i] * ((R.drop (i + 1)).map tsz).prod) := by
      conv => lhs; rw [e]
      rw [List.map_append, List.prod_append, List.map_cons, List.prod_cons]
    have hpos : ∀ l : List Tb, 1 ≤ (l.map tsz).prod := fun l => by
      induction l with
      | nil => simp
      | cons x l ih => rw [List.map_cons, List.prod_cons]; exact Nat.mul_pos (tsz_pos x) ih
    rw [hprod, ← Nat.mul_assoc, ← Nat.mul_assoc] at hp
    exact Nat.le_trans (Nat.le_mul_of_pos_right _ (hpos (R.drop (i + 1)))) hp
  have loop : ∃ j, sFor (itE (eCut (eVar 0) (oSome (eC (.int 1))) oNone)) (.nm 2) (cGdB iGl T) [some (.ref p), some (tbD s), none] M = .nx [some (.ref p), some (tbD (glued s R)), j] S1 := by
    refine sfor_ds (R.map tbD) (R := fun o => ∃ j, o = .nx [some (.ref p), some (tbD (glued s R)), j] S1) e2 (fun i eta S => ∃ j, eta = [some (.ref p), some (tbD (glued s (R.take i))), j] ∧ S = S1) (by rw [List.length_map]; omega) (fun i eta S ⟨j, e1, e2⟩ => by
        subst e2
        simp only [itLive, liveAt, a1, Option.map_some]) ⟨none, rfl, rfl⟩ (fun i d eta S hd ⟨j, e1, e2⟩ => ?_) (fun eta S ⟨j, e1, e2⟩ => by
        subst e1; subst e2
        rw [List.length_map, List.take_length]
        exact ⟨_, rfl⟩)
    subst e1; subst e2
    rw [List.getElem?_map] at hd
    obtain ⟨x, hx, rfl⟩ := Option.map_eq_some_iff.mp hd
    have hi := (List.getElem?_eq_some_iff.mp hx).1
    have hg : R.getD i [] = x := by simp [List.getD_eq_getElem?_getD, hx]
    have hxm := List.mem_of_getElem? hx
    refine ⟨[some (.ref p), some (tbD (glued s (R.take i))), some (tbD x)], rfl, ?_⟩
    have := hpr i hi
    rw [hg] at this
    have eb : cGdB iGl T [some (.ref p), some (tbD (glued s (R.take i))), some (tbD x)] S = .nx [some (.ref p), some (tbD (glue (glued s (R.take i)) x)), some (tbD x)] S := (asg_ok (callL_ok (l2_ok rfl rfl) (eG _ x S (gR x hxm) (hLs x hxm) this))).trans rfl
    rw [eb]
    refine ⟨some (tbD x), ?_, rfl⟩
    have et : R.take (i + 1) = R.take i ++ [x] := by rw [List.take_add_one, hx]; rfl
    rw [et]
    show _ = [some (.ref p), some (tbD ((R.take i ++ [x]).foldl glue s)), some (tbD x)]
    rw [List.foldl_append]
    rfl
  obtain ⟨j, loop⟩ := loop
  have e : cGd iGl T [some (.ref p), none, none] M = .rt (tbD (glued s R)) S1 := by
    unfold cGd
    refine (seq_nx (asg_ok e1)).trans ?_
    exact (seq_nx loop).trans (ret_ok rfl)
  rw [e, hS1]
  exact fin_dat (tb_low _ _)
end
end Ev

/-! Ev, part Y: what the laws draw: one of some, shapes, tables, sizes. -/
namespace Ev
open PySem L2

theorem if_skp {c : EvT} {bd : EvS} {eta : Env} {M M1 : Store} (h : c eta M = .ok false M1) : sIf c bd sSkip eta M = .nx eta M1 := by rw [if_no h]; rfl
theorem lc_of {it : EvIt} {J : Iter} {t : Tgt} {vs : List Nat} {c : EvT} {f : EvE} {eta : Env} {M M1 : Store} {r : Out D} (h : it eta M = .ok J M1) (h2 : lcLoop J t vs c f eta M1.length FUEL 0 (M1 ++ .lst [] :: []) = r) : eLc it t vs c f eta M = r := by
  simp only [eLc, h, Out.bind]
  exact h2
theorem low_srcO {c k : Nat} {l m t : Int} (h : c < k) : (srcO c l m t).low k = true := by simp [srcO, MO.low, lowL, D.low, h]
/-- drawn from, new things laid: the old ones are kept -/
theorem kept_draw {M M' N : Store} {s c : Nat} (h : Src M' s c) (b : But s c M M') : keptOk M.length M (M' ++ N) = true := by
  have aux : ∀ (k : Nat) (A B N : Store), keptOk k A B = true → keptOk k A (B ++ N) = true := fun k => by
    intro A
    induction A with
    | nil => intro B N _; rfl
    | cons m A ih =>
      intro B N h
      cases B with
      | nil => simp [keptOk] at h
      | cons o B =>
        simp only [keptOk, Bool.and_eq_true, List.cons_append] at h ⊢
        exact ⟨h.1, ih B N h.2⟩
  refine aux _ _ _ _ (keptOk_of b.len fun j m o e1 e2 => ?_)
  obtain ⟨cs, l, mm, t, a1, a2, _⟩ := h.at_
  have hlt := h.lt
  rw [b.len] at hlt
  by_cases hj : j = s
  · subst hj
    rw [a1] at e2; cases e2
    exact .inr (low_srcO hlt.2)
  · by_cases hj2 : j = c
    · subst hj2
      rw [a2] at e2; cases e2
      exact .inr (lowL_ints _ _)
    · rw [b.at_ j hj hj2, e1] at e2
      exact .inl (Option.some.inj e2).symm
theorem fin_but {M M' N : Store} {s c : Nat} {d : D} (h : Src M' s c) (b : But s c M M') (hd : d.low M.length = true) : finS M (.rt d (M' ++ N)) = .ok d M' := by
  show gc M d (M' ++ N) = _
  unfold gc
  rw [if_pos (kept_draw h b), if_pos hd, ← b.len, List.take_left]
theorem fin_but0 {M M' : Store} {s c : Nat} {d : D} (h : Src M' s c) (b : But s c M M') (hd : d.low M.length = true) : finS M (.rt d M') = .ok d M' := by
  have := fin_but (N := []) h b hd
  rwa [List.append_nil] at this
theorem fin_butL {M M' N : Store} {s c n : Nat} {o : List D} (h : Src M' s c) (b : But s c M M') (hn : M.length ≤ n) (ho : (M' ++ N)[n]? = some (.lst o)) (hl : lowL M.length o = true) : finS M (.rt (.ref n) (M' ++ N)) = .ok (.ref M'.length) (M' ++ [.lst o]) := by
  show gc M (.ref n) (M' ++ N) = _
  unfold gc
  rw [if_pos (kept_draw h b), if_neg (by simp [D.low]; omega)]
  simp only [ho, MO.low, hl, if_true]
  rw [← b.len, List.take_left]
/-- a step from a store with more behind -/
theorem draw_split {P N M' : Store} {s c : Nat} (hs : Src P s c) (h : Src M' s c) (b : But s c (P ++ N) M') : ∃ P', M' = P' ++ N ∧ Src P' s c ∧ But s c P P' ∧ P'.length = P.length := by
  obtain ⟨P', rfl, b2, l2⟩ := b.split hs.lt.1 hs.lt.2
  exact ⟨P', rfl, h.of_app (by rw [l2]; exact hs.lt.1) (by rw [l2]; exact hs.lt.2), b2, l2⟩

def cOf (iP : Nat) (t : Tab) : EvS := sRet (eBin dIx (eVar 1) (eCall t iP (lCons (eVar 0) (lCons (eB bLen (lCons (eVar 1) (lNil))) (lNil)))))
def cSh (iP iO iS : Nat) (t : Tab) : EvS :=
  sSeq (sIf (tOf (eBin (dEq false) (eVar 1) (eC (.int 1)))) (sRet (eTup (lNil))) (sSkip)) (sSeq (sAsg (.nm 2) (eCall t iO (lCons (eVar 0) (lCons (eLst (lCons (eBin dAdd (eC (.int 1)) (eCall t iP (lCons (eVar 0) (lCons (eBin dSub (eVar 1) (eC (.int 1))) (lNil))))) (lCons (eBin dAdd (eC (.int 1)) (eCall t iP (lCons (eVar 0) (lCons (eBin dSub (eVar 1) (eC (.int 1))) (lNil))))) (lCons (eBin dFdiv (eVar 1) (eC (.int 2))) (lCons (eC (.int 1)) (lCons (eBin dSub (eVar 1) (eC (.int 1))) (lNil))))))) (lNil))))) (sRet (eTup (lCons (eCall t iS (lCons (eVar 0) (lCons (eVar 2) (lNil)))) (lCons (eCall t iS (lCons (eVar 0) (lCons (eBin dSub (eVar 1) (eVar 2)) (lNil)))) (lNil))))))
def cTbE (iS : Nat) (t : Tab) : EvE := eCall t iS (lCons (eVar 0) (lCons (eVar 2) (lNil)))
def cTb (iS : Nat) (t : Tab) : EvS :=
  sRet (eB bTuple (lCons (eLc (itRange2 (lCons (eC (.int 2)) (lCons (eBin dAdd (eVar 1) (eC (.int 1))) (lNil)))) (.nm 2) [2] (tYesE) (cTbE iS t)) (lNil)))
structure Drw (P : List Fn) (iP iO iS iT : Nat) : Prop where
  p : P[iP]? = some ⟨4, 2, fun _ => cPick⟩
  o : P[iO]? = some ⟨2, 2, cOf iP⟩
  s : P[iS]? = some ⟨3, 2, cSh iP iO iS⟩
  t : P[iT]? = some ⟨3, 2, cTb iS⟩
section
variable {P : List Fn} {iP iO iS iT : Nat}
theorem drw_p (A : Drw P iP iO iS iT) {k s c : Nat} {M : Store} {many : Int} (h : Src M s c) (h1 : 1 ≤ many) (h2 : many < 2 ^ 60) : ∃ r M', tabOf P (k + 1) iP [.ref s, .int many] M = .ok (.int r) M' ∧ 0 ≤ r ∧ r < many ∧ Src M' s c ∧ But s c M M' :=
  pick_ok A.p rfl rfl rfl h h1 h2
theorem drw_o (A : Drw P iP iO iS iT) {k s c q : Nat} {M : Store} {L : List Int} (h : Src M s c) (hq : M[q]? = some (.lst (L.map D.int))) (q1 : q ≠ s) (q2 : q ≠ c) (h0 : L ≠ []) (h1 : L.length ≤ 1000) :
    ∃ x M', tabOf P (k + 2) iO [.ref s, .ref q] M = .ok (.int x) M' ∧ x ∈ L ∧ Src M' s c ∧ But s c M M' := by
  have e60 : (2 : Int) ^ 60 = 1152921504606846976 := by decide
  have hl : 1 ≤ L.length := List.length_pos_iff.mpr h0
  obtain ⟨r, M', e, r1, r2, hs, b⟩ := drw_p A (k := k) (many := (L.length : Nat)) h (by omega) (by omega)
  have hr : r.toNat < L.length := by omega
  refine ⟨L[r.toNat], M', ?_, List.getElem_mem hr, hs, b⟩
  rw [tab_at A.o rfl]
  generalize tabOf P (k + 1) = T at e ⊢
  show finS M (cOf iP T [some (.ref s), some (.ref q)] M) = _
  have hbl : bLen [.ref q] M = .ok (.int (L.length : Nat)) M := by simp only [bLen, hq, List.length_map]
  have e1 : cOf iP T [some (.ref s), some (.ref q)] M = .rt (.int L[r.toNat]) M' := by
    refine ret_ok (bi_ok (x := .ref q) (y := .int r) rfl (callL_ok (l2_ok rfl (bL_ok (l1_ok rfl) hbl)) e) ?_)
    have := dIx_list (n := q) (i := r.toNat) (ds := L.map D.int) (d := .int L[r.toNat]) (M := M') ((b.at_ q q1 q2).trans hq) (by rw [List.getElem?_map, List.getElem?_eq_getElem hr]; rfl)
    rwa [show ((r.toNat : Nat) : Int) = r by omega] at this
  rw [e1]
  exact fin_but0 hs b rfl
theorem drw_s (A : Drw P iP iO iS iT) {s c : Nat} : ∀ (f n : Nat), n ≤ f → 1 ≤ n → n ≤ 1000 → ∀ (k : Nat) (M : Store), Src M s c → ∃ (sh : Sh) (M' : Store), tabOf P (k + f + 2) iS [.ref s, .int (n : Nat)] M = .ok sh.toD M' ∧ sh.sz = n ∧ Src M' s c ∧ But s c M M'
  | 0, n, h, h1, _, k, M, _ => by omega
  | f + 1, n, h, h1, h2, k, M, hs => by
    have e60 : (2 : Int) ^ 60 = 1152921504606846976 := by decide
    have hp : ∀ (M : Store) (many : Int), Src M s c → 1 ≤ many → many < 2 ^ 60 → ∃ r M', tabOf P (k + f + 2) iP [.ref s, .int many] M = .ok (.int r) M' ∧ 0 ≤ r ∧ r < many ∧ Src M' s c ∧ But s c M M' := fun M many a b d => drw_p A a b d
    have ho : ∀ (M : Store) (q : Nat) (L : List Int), Src M s c → M[q]? = some (.lst (L.map D.int)) → q ≠ s → q ≠ c → L ≠ [] → L.length ≤ 1000 → ∃ x M', tabOf P (k + f + 2) iO [.ref s, .ref q] M = .ok (.int x) M' ∧ x ∈ L ∧ Src M' s c ∧ But s c M M' := fun M q L a b d e g i => drw_o A a b d e g i
    have hr := fun b q1 q2 q3 M q4 => drw_s A f b q1 q2 q3 k M q4 (s := s) (c := c)
    rw [show k + (f + 1) + 2 = (k + f + 2) + 1 by omega, tab_at A.s rfl]
    generalize tabOf P (k + f + 2) = T at hp ho hr ⊢
    show ∃ (sh : Sh) (M' : Store), finS M (cSh iP iO iS T [some (.ref s), some (.int (n : Nat)), none] M) = _ ∧ _
    unfold cSh
    by_cases hn : n = 1
    · subst hn
      refine ⟨.lf, M, ?_, rfl, hs, But.refl _⟩
      rw [seq_rt (d := Sh.lf.toD) (M' := M) ((if_yes (tOf_ok (bi_ok (x := .int ((1 : Nat) : Int)) (y := .int 1) rfl rfl eqI))).trans rfl)]
      exact fin_dat0 (Sh.low _ _)
    · have hne : tOf (eBin (dEq false) (eVar 1) (eC (.int 1))) [some (.ref s), some (.int (n : Nat)), none] M = .ok false M := tOf_ok (bi_ok (x := .int ((n : Nat) : Int)) (y := .int 1) rfl rfl (eqI.trans (by
        have : ¬ ((n : Int) = 1) := by omega
        simp [this])))
      obtain ⟨r1, M1, p1, a1, b1, s1, t1⟩ := hp M ((n : Int) - 1) hs (by omega) (by omega)
      obtain ⟨r2, M2, p2, a2, b2, s2, t2⟩ := hp M1 ((n : Int) - 1) s1 (by omega) (by omega)
      have hL : M2.length = M.length := by rw [t2.len, t1.len]
      obtain ⟨L, hLL⟩ : ∃ L : List Int, L = [1 + r1, 1 + r2, (n : Int) / 2, 1, (n : Int) - 1] := ⟨_, rfl⟩
      have q1 : M2.length ≠ s := by have := s2.lt; omega
      have q2 : M2.length ≠ c := by have := s2.lt; omega
      obtain ⟨x, M3', p3, hx, s3', t3'⟩ := ho (M2 ++ [.lst (L.map D.int)]) M2.length L (s2.app _) (app_at _ _ _) q1 q2 (by rw [hLL]; simp) (by rw [hLL]; simp)
      obtain ⟨M3, rfl, s3, t3, l3⟩ := draw_split s2 s3' t3'
      have hx2 : 1 ≤ x ∧ x ≤ (n : Int) - 1 := by
        rw [hLL] at hx
        simp at hx
        omega
      obtain ⟨y, rfl⟩ : ∃ y : Nat, x = (y : Int) := ⟨x.toNat, by omega⟩
      obtain ⟨h4, M4', p4, z4, s4', t4'⟩ := hr y (by omega) (by omega) (by omega) (M3 ++ [.lst (L.map D.int)]) (s3.app _)
      obtain ⟨M4, rfl, s4, t4, l4⟩ := draw_split s3 s4' t4'
      obtain ⟨h5, M5', p5, z5, s5', t5'⟩ := hr (n - y) (by omega) (by omega) (by omega) (M4 ++ [.lst (L.map D.int)]) (s4.app _)
      obtain ⟨M5, rfl, s5, t5, l5⟩ := draw_split s4 s5' t5'
      have bb := (((t1.trans t2).trans t3).trans t4).trans t5
      refine ⟨.nd h4 h5, M5, ?_, by rw [Sh.sz, z4, z5]; omega, s5, bb⟩
      have sub1 : eBin dSub (eVar 1) (eC (.int 1)) [some (.ref s), some (.int (n : Nat)), none] M = .ok (.int ((n : Int) - 1)) M := bi_ok (x := .int ((n : Nat) : Int)) (y := .int 1) rfl rfl rfl
      have sub2 : eBin dSub (eVar 1) (eC (.int 1)) [some (.ref s), some (.int (n : Nat)), none] M1 = .ok (.int ((n : Int) - 1)) M1 := bi_ok (x := .int ((n : Nat) : Int)) (y := .int 1) rfl rfl rfl
      have sub3 : eBin dSub (eVar 1) (eC (.int 1)) [some (.ref s), some (.int (n : Nat)), none] M2 = .ok (.int ((n : Int) - 1)) M2 := bi_ok (x := .int ((n : Nat) : Int)) (y := .int 1) rfl rfl rfl
      have hdv : eBin dFdiv (eVar 1) (eC (.int 2)) [some (.ref s), some (.int (n : Nat)), none] M2 = .ok (.int ((n : Int) / 2)) M2 := bi_ok (x := .int ((n : Nat) : Int)) (y := .int 2) rfl rfl rfl
      have el : eLst (lCons (eBin dAdd (eC (.int 1)) (eCall T iP (lCons (eVar 0) (lCons (eBin dSub (eVar 1) (eC (.int 1))) (lNil))))) (lCons (eBin dAdd (eC (.int 1)) (eCall T iP (lCons (eVar 0) (lCons (eBin dSub (eVar 1) (eC (.int 1))) (lNil))))) (lCons (eBin dFdiv (eVar 1) (eC (.int 2))) (lCons (eC (.int 1)) (lCons (eBin dSub (eVar 1) (eC (.int 1))) (lNil)))))) [some (.ref s), some (.int (n : Nat)), none] M = .ok (.ref M2.length) (M2 ++ [.lst (L.map D.int)]) := by
        rw [hLL]
        exact lst_ok (lc_ok (bi_ok (x := .int 1) (y := .int r1) rfl (callL_ok (l2_ok rfl sub1) p1) rfl) (lc_ok (bi_ok (x := .int 1) (y := .int r2) rfl (callL_ok (l2_ok rfl sub2) p2) rfl) (lc_ok hdv (l2_ok rfl sub3)))) (by simp [cap])
      rw [seq_nx (if_skp hne), seq_nx (asg_ok (callL_ok (l2_ok rfl el) p3))]
      show finS M (sRet _ [some (.ref s), some (.int (n : Nat)), some (.int (y : Nat))] _) = _
      have sub4 : eBin dSub (eVar 1) (eVar 2) [some (.ref s), some (.int (n : Nat)), some (.int (y : Nat))] (M4 ++ [.lst (L.map D.int)]) = .ok (.int ((n - y : Nat) : Int)) (M4 ++ [.lst (L.map D.int)]) := bi_ok (x := .int ((n : Nat) : Int)) (y := .int ((y : Nat) : Int)) rfl rfl (by
        show Out.ok (D.int ((n : Int) - (y : Int))) _ = _
        rw [show ((n : Int) - (y : Int)) = ((n - y : Nat) : Int) by omega])
      rw [ret_ok (tup_ok (l2_ok (callL_ok (l2_ok rfl rfl) p4) (callL_ok (l2_ok rfl sub4) p5)) (by simp [cap]))]
      exact fin_but s5 bb (Sh.low M.length (.nd h4 h5))
theorem ent_t (A : Drw P iP iO iS iT) {k s : Nat} {x : Int} {M : Store} : tabOf P (k + 1) iT [.ref s, .int x] M = finS M (cTb iS (tabOf P k) [some (.ref s), some (.int x), none] M) := tab_at A.t rfl
theorem drw_t (A : Drw P iP iO iS iT) {k s c n : Nat} {M : Store} (h : Src M s c) (h1 : 2 ≤ n) (h2 : n ≤ 900) : ∃ (tb : Tb) (M' : Store), tabOf P (k + n + 3) iT [.ref s, .int (n : Nat)] M = .ok (tbD tb) M' ∧ Good tb ∧ tsz tb = n ∧ Src M' s c ∧ But s c M M' := by
  have hs : ∀ (m : Nat) (M : Store), Src M s c → 1 ≤ m → m ≤ n → ∃ (sh : Sh) (M' : Store), tabOf P (k + n + 2) iS [.ref s, .int (m : Nat)] M = .ok sh.toD M' ∧ sh.sz = m ∧ Src M' s c ∧ But s c M M' := fun m M a b d => drw_s A n m d b (by omega) k M a
  rw [show k + n + 3 = (k + n + 2) + 1 by omega, ent_t A]
  generalize tabOf P (k + n + 2) = T at hs ⊢
  have key : ∃ Mf, lcLoop (itRg 2 (n - 1)) (.nm 2) [2] tYesE (cTbE iS T) [some (.ref s), some (.int (n : Nat)), none] M.length FUEL 0 (M ++ .lst [] :: []) = .ok (.ref M.length) Mf ∧ ∃ (M' : Store) (tb : Tb), Mf = M' ++ [.lst (tb.map Sh.toD)] ∧ Src M' s c ∧ But s c M M' ∧ tb.length = n - 1 ∧ (∀ j, j < n - 1 → (tb.getD j .lf).sz = j + 2) := by
    refine lc_rule (R := fun Mf => ∃ (M' : Store) (tb : Tb), Mf = M' ++ [.lst (tb.map Sh.toD)] ∧ Src M' s c ∧ But s c M M' ∧ tb.length = n - 1 ∧ (∀ j, j < n - 1 → (tb.getD j .lf).sz = j + 2)) (n - 1)
      (fun i Q acc N => i ≤ n - 1 ∧ N = [] ∧ Src Q s c ∧ But s c M Q ∧ ∃ l : List Sh, acc = l.map Sh.toD ∧ l.length = i ∧ ∀ j, j < i → (l.getD j .lf).sz = j + 2)
      (fun i Q acc N ⟨hi, _, _, b, l, e1, e2, _⟩ => ⟨b.len, by rw [e1, List.length_map]; unfold cap; omega⟩)
      (fun Q acc N ⟨hi, e0, hs, b, l, e1, e2, e3⟩ => by
        subst e0; subst e1
        exact ⟨by simp [itRg], Q, l, rfl, hs, b, e2, e3⟩)
      (fun i Q acc N hi ⟨_, e0, hsq, b, l, e1, e2, e3⟩ => ?_) FUEL 0 M [] [] (by unfold FUEL; omega) (Nat.zero_le _) ⟨Nat.zero_le _, rfl, h, But.refl _, [], rfl, rfl, fun j hj => by omega⟩
    subst e0; subst e1
    obtain ⟨sh, Q', p1, z1, s1, t1⟩ := hs (i + 2) (Q ++ .lst (l.map Sh.toD) :: []) (hsq.app _) (by omega) (by omega)
    obtain ⟨Q2, rfl, s2, t2, l2⟩ := draw_split hsq s1 t1
    refine ⟨.int (2 + (i : Int)), [some (.ref s), some (.int (n : Nat)), some (.int (2 + (i : Int)))], by simp only [itRg, if_pos hi], rfl, .inl ⟨rfl, sh.toD, Q2, [], callL_ok (l2_ok rfl rfl) (by rw [show (2 : Int) + (i : Int) = ((i + 2 : Nat) : Int) by omega]; exact p1), by rw [l2, b.len], by omega, rfl, s2, b.trans t2, l ++ [sh], by simp, by simp [e2], fun j hj => ?_⟩⟩
    by_cases hji : j < i
    · have := e3 j hji
      simpa [List.getD_eq_getElem?_getD, List.getElem?_append_left (show j < l.length by omega)] using this
    · have : j = i := by omega
      subst this
      simp [List.getD_eq_getElem?_getD, ← e2, z1]
  obtain ⟨Mf, k1, M', tb, rfl, hs', b', hlen, hsz⟩ := key
  have ht : tsz tb = n := by show tb.length + 1 = n; omega
  refine ⟨tb, M', ?_, fun m m1 m2 => ?_, ht, hs', b'⟩
  · have hit : itRange2 (lCons (eC (.int 2)) (lCons (eBin dAdd (eVar 1) (eC (.int 1))) (lNil))) [some (.ref s), some (.int (n : Nat)), none] M = .ok (itRg 2 (n - 1)) M :=
      (range2_ok (i := 2) (j := (n : Int) + 1) rfl (bi_ok (x := .int ((n : Nat) : Int)) (y := .int 1) rfl rfl rfl) (by omega)).trans (by rw [show ((n : Int) + 1 - 2).toNat = n - 1 by omega])
    have lc : eLc (itRange2 (lCons (eC (.int 2)) (lCons (eBin dAdd (eVar 1) (eC (.int 1))) (lNil)))) (.nm 2) [2] (tYesE) (cTbE iS T) [some (.ref s), some (.int (n : Nat)), none] M = .ok (.ref M.length) (M' ++ [.lst (tb.map Sh.toD)]) := by
      exact lc_of hit k1
    unfold cTb
    rw [ret_ok (bL_ok (l1_ok lc) (r := .ok (tbD tb) (M' ++ [.lst (tb.map Sh.toD)])) (by simp only [bTuple, liveAt, app_at' b'.len]; rfl))]
    exact fin_but hs' b' (tb_low _ _)
  · unfold ent
    rw [if_neg (by omega), hsz (m - 2) (by omega)]
    omega
end
end Ev

namespace Ev
open PySem L2
theorem lib12 : Lib Prog 0 1 2 3 4 5 6 := ⟨rfl, rfl, rfl, rfl, rfl, rfl, rfl⟩
theorem drw12 : Drw Prog 8 9 10 11 := ⟨rfl, rfl, rfl, rfl⟩
theorem pg12 : Prog[12]? = some ⟨6, 3, d12⟩ := rfl
theorem ent12 {k s : Nat} {x y : Int} {M : Store} : tabOf Prog (k + 1) 12 [.ref s, .int x, .int y] M = finS M (d12 (tabOf Prog k) [some (.ref s), some (.int x), some (.int y), none, none, none] M) := tab_at (F := ⟨6, 3, d12⟩) pg12 rfl
abbrev nI (L : List Nat) : List D := L.map fun n => D.int (n : Nat)
theorem lowL_nI (k : Nat) : ∀ L : List Nat, lowL k (nI L) = true
  | [] => rfl
  | x :: L => by
    have := lowL_nI k L
    simp only [nI, List.map_cons, lowL, D.low, Bool.true_and]
    exact this
theorem app_end {P : Store} {a : List D} {d : D} (h : a.length < cap) : mAppend (.ref P.length) [d] (P ++ [.lst a]) = .ok .non (P ++ [.lst (a ++ [d])]) := by
  simp [mAppend, h]
theorem sized_ok {k s c : Nat} {M : Store} (h : Src M s c) : ∃ (M' : Store) (L : List Nat), tabOf Prog (k + 2) 12 [.ref s, .int 4, .int 60] M = .ok (.ref M'.length) (M' ++ [.lst (nI L)]) ∧ L ≠ [] ∧ L.length ≤ 4 ∧ (∀ n ∈ L, 2 ≤ n) ∧ L.prod ≤ 60 ∧ Src M' s c ∧ But s c M M' := by
  have e60 : (2 : Int) ^ 60 = 1152921504606846976 := by decide
  have hp : ∀ (M : Store) (many : Int), Src M s c → 1 ≤ many → many < 2 ^ 60 → ∃ r M', tabOf Prog (k + 1) 8 [.ref s, .int many] M = .ok (.int r) M' ∧ 0 ≤ r ∧ r < many ∧ Src M' s c ∧ But s c M M' := fun M many a b d => drw_p drw12 a b d
  rw [ent12]
  generalize tabOf Prog (k + 1) = T at hp ⊢
  obtain ⟨eta', S', hf, M', L, room, j, rfl, rfl, hs, b, h0, hlen, h2, r1, r2, hpr⟩ := sfor_rg (it := itRange1 (lCons (eVar 1) (lNil))) (t := .nm 5) (b := d12_b0 T) (eta := [some (.ref s), some (.int 4), some (.int 60), some (.ref M.length), some (.int 60), none]) (M := M ++ [.lst []]) (lo := 0) (n := 4)
    (range1_ok (j := 4) rfl (by decide)) (by decide) (fun i eta S => ∃ (M' : Store) (L : List Nat) (room : Nat) (j : Option D), eta = [some (.ref s), some (.int 4), some (.int 60), some (.ref M.length), some (.int (room : Nat)), j] ∧ S = M' ++ [.lst (nI L)] ∧ Src M' s c ∧ But s c M M' ∧ ((1 ≤ i → L ≠ []) ∧ (i = 0 → room = 60)) ∧ L.length ≤ i ∧ (∀ n ∈ L, 2 ≤ n) ∧ 1 ≤ room ∧ room ≤ 60 ∧ L.prod * room ≤ 60)
    ⟨M, [], 60, none, rfl, rfl, h, But.refl _, ⟨fun q => by omega, fun _ => rfl⟩, Nat.le_refl _, fun n hn => by simp at hn, by decide, by decide, by decide⟩ (fun i eta S hi hI => by
      obtain ⟨M', L, room, j, rfl, rfl, hs, b, h0, hlen, h2, r1, r2, hpr⟩ := hI
      refine ⟨[some (.ref s), some (.int 4), some (.int 60), some (.ref M.length), some (.int (room : Nat)), some (.int (0 + (i : Int)))], rfl, ?_⟩
      have ht : tOf (eBin dGt (eVar 4) (eC (.int 1))) [some (.ref s), some (.int 4), some (.int 60), some (.ref M.length), some (.int (room : Nat)), some (.int (0 + (i : Int)))] (M' ++ [.lst (nI L)]) = .ok (decide ((1 : Int) < (room : Int))) (M' ++ [.lst (nI L)]) := tOf_ok (bi_ok (x := .int (room : Nat)) (y := .int 1) rfl rfl rfl)
      by_cases hr : 1 < room
      · obtain ⟨q, hq⟩ : ∃ q, q = min 12 room := ⟨_, rfl⟩
        obtain ⟨r, S2, p1, p2, p3, s2, t2⟩ := hp (M' ++ [.lst (nI L)]) ((q : Int) - 1) (hs.app _) (by omega) (by omega)
        obtain ⟨M2, rfl, s3, t3, l3⟩ := draw_split hs s2 t2
        obtain ⟨y, hy⟩ : ∃ y : Nat, (2 : Int) + r = (y : Int) := ⟨(2 + r).toNat, by omega⟩
        have bb := b.trans t3
        have hl2 : M2.length = M.length := bb.len
        have hap : mAppend (.ref M.length) [.int ((y : Nat) : Int)] (M2 ++ [.lst (nI L)]) = .ok .non (M2 ++ [.lst (nI (L ++ [y]))]) := by
          rw [← hl2, app_end (by rw [List.length_map]; unfold cap; omega)]
          simp [nI]
        have hmin : bMin [.int 12, .int (room : Nat)] (M' ++ [.lst (nI L)]) = .ok (.int (q : Nat)) (M' ++ [.lst (nI L)]) := by
          show Out.ok (D.int (if (room : Int) < 12 then (room : Int) else 12)) _ = _
          congr 2
          rw [hq]
          split <;> omega
        have hlast : dIx (.ref M.length) (.int (-1)) (M2 ++ [.lst (nI (L ++ [y]))]) = .ok (.int ((y : Nat) : Int)) (M2 ++ [.lst (nI (L ++ [y]))]) := by
          have e : atI (nI (L ++ [y])) (-1) = some (.int ((y : Nat) : Int)) := by
            show atI ((L ++ [y]).map fun n => D.int (n : Nat)) (-1) = _
            rw [List.map_append]
            exact atI_last _ _
          simp only [dIx, app_at' hl2, e]
        have hdiv : dFdiv (.int (room : Nat)) (.int (y : Nat)) (M2 ++ [.lst (nI (L ++ [y]))]) = .ok (.int ((room / y : Nat) : Int)) (M2 ++ [.lst (nI (L ++ [y]))]) := by
          simp only [dFdiv]
          rw [if_pos ⟨by omega, by
            have : ((y : Nat) : Int).natAbs.log2 ≤ ((y : Nat) : Int).natAbs := Nat.log2_le_self _
            omega⟩]
          simp
        have g1 : sExpr (eMl mAppend (eVar 3) (lCons (eBin dAdd (eC (.int 2)) (eCall T 8 (lCons (eVar 0) (lCons (eBin dSub (eB bMin (lCons (eC (.int 12)) (lCons (eVar 4) (lNil)))) (eC (.int 1))) (lNil))))) (lNil))) [some (.ref s), some (.int 4), some (.int 60), some (.ref M.length), some (.int (room : Nat)), some (.int (0 + (i : Int)))] (M' ++ [.lst (nI L)]) = .nx [some (.ref s), some (.int 4), some (.int 60), some (.ref M.length), some (.int (room : Nat)), some (.int (0 + (i : Int)))] (M2 ++ [.lst (nI (L ++ [y]))]) :=
          expr_ok (ml_ok (x := .ref M.length) rfl (by simp only [isLst, app_at' b.len]) (l1_ok (bi_ok (x := .int 2) (y := .int r) rfl (callL_ok (l2_ok rfl (bi_ok (x := .int (q : Nat)) (y := .int 1) (bL_ok (l2_ok rfl rfl) hmin) rfl rfl)) p1) (by show Out.ok (D.int ((2 : Int) + r)) _ = _; rw [hy]))) hap)
        have g2 : sAsg (.nm 4) (eBin dFdiv (eVar 4) (eBin dIx (eVar 3) (eUn dNeg (eC (.int 1))))) [some (.ref s), some (.int 4), some (.int 60), some (.ref M.length), some (.int (room : Nat)), some (.int (0 + (i : Int)))] (M2 ++ [.lst (nI (L ++ [y]))]) = .nx [some (.ref s), some (.int 4), some (.int 60), some (.ref M.length), some (.int ((room / y : Nat) : Int)), some (.int (0 + (i : Int)))] (M2 ++ [.lst (nI (L ++ [y]))]) :=
          (asg_ok (bi_ok (x := .int (room : Nat)) rfl (bi_ok (x := .ref M.length) (y := .int (-1)) rfl rfl hlast) hdiv)).trans rfl
        have hy1 : 2 ≤ y ∧ y ≤ room := by omega
        refine ⟨[some (.ref s), some (.int 4), some (.int 60), some (.ref M.length), some (.int ((room / y : Nat) : Int)), some (.int (0 + (i : Int)))], M2 ++ [.lst (nI (L ++ [y]))], ?_, M2, L ++ [y], room / y, _, rfl, rfl, s3, bb, ⟨fun _ => by simp, fun q => by omega⟩, by simp; omega, fun n hn => ?_, Nat.div_pos hy1.2 (by omega), Nat.le_trans (Nat.div_le_self _ _) r2, ?_⟩
        · unfold d12_b0
          rw [if_yes (ht.trans (by rw [decide_eq_true (by omega)])), seq_nx g1]
          exact g2
        · rcases List.mem_append.mp hn with z | z
          · exact h2 n z
          · rw [List.mem_singleton.mp z]; exact hy1.1
        · rw [List.prod_append]
          have e1 : [y].prod = y := by simp
          rw [e1, Nat.mul_assoc]
          exact Nat.le_trans (Nat.mul_le_mul_left _ (Nat.mul_div_le room y)) hpr
      · refine ⟨[some (.ref s), some (.int 4), some (.int 60), some (.ref M.length), some (.int (room : Nat)), some (.int (0 + (i : Int)))], M' ++ [.lst (nI L)], ?_, M', L, room, _, rfl, rfl, hs, b, ⟨fun _ => ?_, fun q => by omega⟩, by omega, h2, r1, r2, hpr⟩
        · unfold d12_b0
          exact if_skp (ht.trans (by rw [decide_eq_false (by omega)]))
        · by_cases hi0 : i = 0
          · have := h0.2 hi0
            omega
          · exact h0.1 (by omega))
  refine ⟨M', L, ?_, h0.1 (by decide), hlen, h2, Nat.le_trans (Nat.le_mul_of_pos_right _ r1) hpr, hs, b⟩
  have e0 : eLst lNil [some (.ref s), some (.int 4), some (.int 60), none, none, none] M = .ok (.ref M.length) (M ++ [.lst []]) := lst_ok l0_ok (by simp [cap])
  unfold d12
  rw [seq_nx (par2_ok (l2_ok e0 rfl))]
  show finS M (sSeq _ _ [some (.ref s), some (.int 4), some (.int 60), some (.ref M.length), some (.int 60), none] _) = _
  rw [seq_nx hf, ret_ok (f := eVar 3) (d := .ref M.length) rfl]
  exact fin_butL hs b (Nat.le_refl _) (app_at' b.len _ _) (lowL_nI _ _)
end Ev

namespace Ev
open PySem L2
/-! ### rows of tables -/
def gL : List Tb → Tb
  | [] => []
  | x :: X => glued x X
abbrev pr (L : List Tb) : Nat := (L.map tsz).prod
theorem pr_pos : ∀ L : List Tb, 1 ≤ pr L
  | [] => by simp [pr]
  | x :: L => by
    have := pr_pos L
    rw [pr, List.map_cons, List.prod_cons]
    exact Nat.mul_pos (tsz_pos x) this
theorem pr_app (A B : List Tb) : pr (A ++ B) = pr A * pr B := by rw [pr, List.map_append, List.prod_append]
theorem pr_mem {L : List Tb} {x : Tb} (h : x ∈ L) : tsz x ≤ pr L := by
  obtain ⟨A, B, rfl⟩ := List.append_of_mem h
  rw [pr_app]
  have h1 := pr_pos A
  have h2 := pr_pos B
  have e : pr (x :: B) = tsz x * pr B := by rw [pr, List.map_cons, List.prod_cons]
  rw [e]
  exact Nat.le_trans (Nat.le_mul_of_pos_right _ h2) (Nat.le_mul_of_pos_left _ h1)
theorem gL_tsz : ∀ {L : List Tb}, L ≠ [] → tsz (gL L) = pr L
  | x :: X, _ => by
    show tsz (glued x X) = _
    rw [glued_tsz, pr, List.map_cons, List.prod_cons]
theorem gL_good : ∀ {L : List Tb}, L ≠ [] → (∀ x ∈ L, Good x) → Good (gL L)
  | x :: X, _, h => glued_good (h x (List.mem_cons_self ..)) fun y hy => h y (List.mem_cons_of_mem _ hy)
theorem gL_split {A B : List Tb} (hA : A ≠ []) (hB : B ≠ []) (g : ∀ x ∈ A ++ B, Good x) : gL (A ++ B) = glue (gL A) (gL B) := by
  match A, B, hA, hB with
  | a :: A, b :: B, _, _ => exact glued_split (g a (by simp)) (fun x hx => g x (by simp [hx])) (g b (by simp)) (fun x hx => g x (by simp [hx]))
theorem gL_pair {A B : List Tb} {x y : Tb} (g : ∀ z ∈ A ++ x :: y :: B, Good z) : gL (A ++ glue x y :: B) = gL (A ++ x :: y :: B) := by
  match A with
  | [] => rfl
  | a :: A => exact glued_pair (g a (by simp)) (fun z hz => g z (by simp [hz])) (g x (by simp)) (g y (by simp))
structure H12 (T : Tab) : Prop where
  glue : ∀ (s t : Tb) (M : Store), Good t → tsz s * tsz t ≤ 60 → T 5 [tbD s, tbD t] M = .ok (tbD (glue s t)) M
  gl : ∀ (p : Nat) (L : List Tb) (M : Store), M[p]? = some (.lst (L.map tbD)) → L ≠ [] → (∀ x ∈ L, Good x) → pr L ≤ 60 → L.length ≤ 1000 → T 6 [.ref p] M = .ok (tbD (gL L)) M
  ts : ∀ (s : Tb) (M : Store), T 0 [tbD s] M = .ok (.int (tsz s : Nat)) M
  tb : ∀ (n : Nat) (M : Store), Src M 1 3 → 2 ≤ n → n ≤ 60 → ∃ (tb : Tb) (M' : Store), T 11 [.ref 1, .int (n : Nat)] M = .ok (tbD tb) M' ∧ Good tb ∧ tsz tb = n ∧ Src M' 1 3 ∧ But 1 3 M M'
  sized : ∀ (M : Store), Src M 1 3 → ∃ (M' : Store) (L : List Nat), T 12 [.ref 1, .int 4, .int 60] M = .ok (.ref M'.length) (M' ++ [.lst (nI L)]) ∧ L ≠ [] ∧ L.length ≤ 4 ∧ (∀ n ∈ L, 2 ≤ n) ∧ L.prod ≤ 60 ∧ Src M' 1 3 ∧ But 1 3 M M'
theorem h12 : H12 (tabOf Prog 199) where
  glue := fun s t M g h => by
    have ht : tsz t ≤ 60 := Nat.le_trans (Nat.le_mul_of_pos_left _ (tsz_pos s)) h
    exact glue_ok (L := 197) lib12 g (by omega) (by omega)
  gl := fun p L M hm h0 g h hl => by
    match L, h0 with
    | x :: X, _ =>
      have e : pr (x :: X) = tsz x * (X.map tsz).prod := by rw [pr, List.map_cons, List.prod_cons]
      exact glued_ok (L := 196) lib12 hm (fun y hy => g y (List.mem_cons_of_mem _ hy)) (fun y hy => by
        have := pr_mem (L := x :: X) (List.mem_cons_of_mem _ hy)
        omega) (by omega) (by simp at hl; omega)
  ts := fun s M => ts_ok (k := 198) lib12.ts
  tb := fun n M h h1 h2 => by
    have := drw_t drw12 (k := 196 - n) h h1 (by omega)
    rwa [show 196 - n + n + 3 = 199 by omega] at this
  sized := fun M h => sized_ok (k := 197) h
theorem cutT_lo {L : List Tb} {a : Nat} : cutD (L.map tbD) none (some (a : Int)) = (L.take a).map tbD := by
  unfold cutD
  rw [HT.sIx_nat, HT.sIx_none, Nat.sub_zero, List.drop_zero, List.length_map, List.map_take]
  by_cases h : a ≤ L.length
  · rw [Nat.min_eq_left h]
  · rw [Nat.min_eq_right (by omega), List.take_of_length_le (by rw [List.length_map]; exact Nat.le_refl _), List.take_of_length_le (by rw [List.length_map]; omega)]
theorem cutT_hi {L : List Tb} {a : Nat} : cutD (L.map tbD) (some (a : Int)) none = (L.drop a).map tbD := by
  unfold cutD
  rw [HT.sIx_nat, HT.sIx_none, List.length_map, List.map_drop]
  by_cases h : a ≤ L.length
  · rw [Nat.min_eq_left h, List.take_of_length_le (by rw [List.length_drop, List.length_map]; exact Nat.le_refl _)]
  · rw [Nat.min_eq_right (by omega), List.drop_eq_nil_of_le (by rw [List.length_map]; exact Nat.le_refl _), List.drop_eq_nil_of_le (by rw [List.length_map]; omega)]
    simp
theorem cut_lo_ok {f g : EvE} {eta : Env} {M : Store} {q a : Nat} {L : List Tb} (h1 : f eta M = .ok (.ref q) M) (h2 : g eta M = .ok (.int (a : Nat)) M) (hq : M[q]? = some (.lst (L.map tbD))) : eCut f oNone (oSome g) eta M = .ok (.ref M.length) (M ++ [.lst ((L.take a).map tbD)]) := by
  simp only [eCut, h1, h2, Out.bind, oNone, oSome, dCut, hq, cutT_lo]
theorem cut_hi_ok {f g : EvE} {eta : Env} {M : Store} {q a : Nat} {L : List Tb} (h1 : f eta M = .ok (.ref q) M) (h2 : g eta M = .ok (.int (a : Nat)) M) (hq : M[q]? = some (.lst (L.map tbD))) : eCut f (oSome g) oNone eta M = .ok (.ref M.length) (M ++ [.lst ((L.drop a).map tbD)]) := by
  simp only [eCut, h1, h2, Out.bind, oNone, oSome, dCut, hq, cutT_hi]

abbrev E12 (q : Nat) (j2 j4 j5 j6 j7 j8 j9 j10 : Option D) : Env := [some (.ref 0), some (.ref 1), j2, some (.ref q), j4, j5, j6, j7, j8, j9, j10]
section
variable {T : Tab} {q : Nat} {L : List Tb} {j2 j4 j5 j6 j7 j8 j9 j10 : Option D}
/-- a row of tables as the law has it -/
structure Row (L : List Tb) : Prop where
  ne : L ≠ []
  good : ∀ x ∈ L, Good x
  pr : pr L ≤ 60
  len : L.length ≤ 4
theorem Row.small {L : List Tb} (h : Row L) : ∀ x ∈ gL L, x.sz ≤ 149 := fun x hx => by
  have := (gL_good h.ne h.good).mem hx
  rw [gL_tsz h.ne] at this
  have := h.pr
  omega
/-- the neighbours glued first, at each place -/
theorem b1_ok' (H : H12 T) (R : Row L) {S : Store} (hq : S[q]? = some (.lst (L.map tbD))) {a : Nat} (h1 : 1 ≤ a) (h2 : a < L.length) :
    ∃ N, d13_b1 T (E12 q j2 (some (tbD (gL L))) j5 j6 (some (.int (a : Nat))) j8 j9 j10) S = .nx (E12 q j2 (some (tbD (gL L))) j5 j6 (some (.int (a : Nat))) j8 j9 j10) (S ++ N) := by
  have eL : L.take a ++ L.drop a = L := List.take_append_drop _ _
  have hA : L.take a ≠ [] := fun z => by have := congrArg List.length z; rw [List.length_take, List.length_nil] at this; omega
  have hB : L.drop a ≠ [] := fun z => by have := congrArg List.length z; rw [List.length_drop, List.length_nil] at this; omega
  have gA : ∀ x ∈ L.take a, Good x := fun x hx => R.good x (List.mem_of_mem_take hx)
  have gB : ∀ x ∈ L.drop a, Good x := fun x hx => R.good x (List.mem_of_mem_drop hx)
  have hp : pr (L.take a) * pr (L.drop a) ≤ 60 := by rw [← pr_app, eL]; exact R.pr
  have pA : pr (L.take a) ≤ 60 := Nat.le_trans (Nat.le_mul_of_pos_right _ (pr_pos _)) hp
  have pB : pr (L.drop a) ≤ 60 := Nat.le_trans (Nat.le_mul_of_pos_left _ (pr_pos _)) hp
  have lA : (L.take a).length ≤ 1000 := by have := R.len; rw [List.length_take]; omega
  have lB : (L.drop a).length ≤ 1000 := by have := R.len; rw [List.length_drop]; omega
  obtain ⟨S1, hS1⟩ : ∃ S1, S1 = S ++ [MO.lst ((L.take a).map tbD)] := ⟨_, rfl⟩
  obtain ⟨S2, hS2⟩ : ∃ S2, S2 = S1 ++ [MO.lst ((L.drop a).map tbD)] := ⟨_, rfl⟩
  have c1 : S1[S.length]? = some (.lst ((L.take a).map tbD)) := by rw [hS1]; exact app_at _ _ _
  have q1 : S1[q]? = some (.lst (L.map tbD)) := by rw [hS1]; exact app_old hq _
  have c2 : S2[S1.length]? = some (.lst ((L.drop a).map tbD)) := by rw [hS2]; exact app_at _ _ _
  have e1 : eCall T 6 (lCons (eCut (eVar 3) oNone (oSome (eVar 7))) (lNil)) (E12 q j2 (some (tbD (gL L))) j5 j6 (some (.int (a : Nat))) j8 j9 j10) S = .ok (tbD (gL (L.take a))) S1 :=
    callL_ok (l1_ok ((cut_lo_ok rfl rfl hq).trans (by rw [hS1]))) (H.gl _ _ _ c1 hA gA pA lA)
  have e2 : eCall T 6 (lCons (eCut (eVar 3) (oSome (eVar 7)) oNone) (lNil)) (E12 q j2 (some (tbD (gL L))) j5 j6 (some (.int (a : Nat))) j8 j9 j10) S1 = .ok (tbD (gL (L.drop a))) S2 :=
    callL_ok (l1_ok ((cut_hi_ok rfl rfl q1).trans (by rw [hS2]))) (H.gl _ _ _ c2 hB gB pB lB)
  have e3 : glue (gL (L.take a)) (gL (L.drop a)) = gL L := by
    rw [← gL_split hA hB (by rw [eL]; exact R.good), eL]
  have e4 := H.glue (gL (L.take a)) (gL (L.drop a)) S2 (gL_good hB gB) (by rw [gL_tsz hA, gL_tsz hB]; exact hp)
  rw [e3] at e4
  obtain ⟨N, hN⟩ : ∃ N, S2 = S ++ N := ⟨_, by rw [hS2, hS1, List.append_assoc]⟩
  refine ⟨N, ?_⟩
  rw [← hN]
  unfold d13_b1
  exact if_skp (tOf_ok (bi_ok (y := tbD (gL L)) (callL_ok (l2_ok e1 e2) e4) rfl ((dEq_tb R.small).trans (by simp))))
theorem b2_ok' (H : H12 T) (R : Row L) {S : Store} (hq : S[q]? = some (.lst (L.map tbD))) {a : Nat} (h2 : a + 1 < L.length) :
    ∃ N, d13_b2 T (E12 q j2 (some (tbD (gL L))) j5 j6 (some (.int (a : Nat))) j8 j9 j10) S = .nx (E12 q j2 (some (tbD (gL L))) j5 j6 (some (.int (a : Nat))) j8 j9 j10) (S ++ N) := by
  have hx : L[a]? = some L[a] := List.getElem?_eq_getElem (by omega)
  have hy : L[a + 1]? = some L[a + 1] := List.getElem?_eq_getElem h2
  have eL : L = L.take a ++ L[a] :: L[a + 1] :: L.drop (a + 2) := by
    have e1 : L.drop a = L[a] :: L.drop (a + 1) := List.drop_eq_getElem_cons (by omega)
    have e2 : L.drop (a + 1) = L[a + 1] :: L.drop (a + 2) := List.drop_eq_getElem_cons h2
    rw [← e2, ← e1, List.take_append_drop]
  generalize L[a] = x at hx eL
  generalize L[a + 1] = y at hy eL
  obtain ⟨W, hW⟩ : ∃ W, W = L.take a ++ glue x y :: L.drop (a + 2) := ⟨_, rfl⟩
  have gx : Good x := R.good x (List.mem_of_getElem? hx)
  have gy : Good y := R.good y (List.mem_of_getElem? hy)
  have hgW : gL W = gL L := by
    rw [hW, gL_pair (by rw [← eL]; exact R.good), ← eL]
  have hpW : pr W = pr L := by
    rw [hW, pr_app]
    conv => rhs; rw [eL, pr_app]
    congr 1
    rw [pr, pr, List.map_cons, List.map_cons, List.map_cons, List.prod_cons, List.prod_cons, List.prod_cons, glue_tsz, Nat.mul_assoc]
  have hxy : tsz x * tsz y ≤ 60 := by
    have : pr [x, y] ≤ pr L := by
      have e : L = L.take a ++ ([x, y] ++ L.drop (a + 2)) := eL
      rw [e, pr_app, pr_app]
      exact Nat.le_trans (Nat.le_mul_of_pos_right _ (pr_pos _)) (Nat.le_mul_of_pos_left _ (pr_pos _))
    have e2 : pr [x, y] = tsz x * tsz y := by simp [pr]
    have := R.pr
    omega
  obtain ⟨S1, hS1⟩ : ∃ S1, S1 = S ++ [MO.lst ((L.take a).map tbD)] := ⟨_, rfl⟩
  obtain ⟨S2, hS2⟩ : ∃ S2, S2 = S1 ++ [MO.lst ([glue x y].map tbD)] := ⟨_, rfl⟩
  obtain ⟨S3, hS3⟩ : ∃ S3, S3 = S2 ++ [MO.lst ((L.take a ++ [glue x y]).map tbD)] := ⟨_, rfl⟩
  obtain ⟨S4, hS4⟩ : ∃ S4, S4 = S3 ++ [MO.lst ((L.drop (a + 2)).map tbD)] := ⟨_, rfl⟩
  obtain ⟨S5, hS5⟩ : ∃ S5, S5 = S4 ++ [MO.lst (W.map tbD)] := ⟨_, rfl⟩
  have q1 : S1[q]? = some (.lst (L.map tbD)) := by rw [hS1]; exact app_old hq _
  have c1 : S1[S.length]? = some (.lst ((L.take a).map tbD)) := by rw [hS1]; exact app_at _ _ _
  have c2 : S2[S1.length]? = some (.lst ([glue x y].map tbD)) := by rw [hS2]; exact app_at _ _ _
  have c12 : S2[S.length]? = some (.lst ((L.take a).map tbD)) := by rw [hS2]; exact app_old c1 _
  have q3 : S3[q]? = some (.lst (L.map tbD)) := by rw [hS3, hS2]; exact app_old (app_old q1 _) _
  have c3 : S3[S2.length]? = some (.lst ((L.take a ++ [glue x y]).map tbD)) := by rw [hS3]; exact app_at _ _ _
  have c34 : S4[S2.length]? = some (.lst ((L.take a ++ [glue x y]).map tbD)) := by rw [hS4]; exact app_old c3 _
  have c4 : S4[S3.length]? = some (.lst ((L.drop (a + 2)).map tbD)) := by rw [hS4]; exact app_at _ _ _
  have c5 : S5[S4.length]? = some (.lst (W.map tbD)) := by rw [hS5]; exact app_at _ _ _
  have hlen := R.len
  have e1 : eCut (eVar 3) oNone (oSome (eVar 7)) (E12 q j2 (some (tbD (gL L))) j5 j6 (some (.int (a : Nat))) j8 j9 j10) S = .ok (.ref S.length) S1 := (cut_lo_ok rfl rfl hq).trans (by rw [hS1])
  have dx : dIx (.ref q) (.int (a : Nat)) S1 = .ok (tbD x) S1 := dIx_list q1 (by rw [List.getElem?_map, hx]; rfl)
  have dy : dIx (.ref q) (.int ((a : Int) + 1)) S1 = .ok (tbD y) S1 := by
    rw [show ((a : Int) + 1) = ((a + 1 : Nat) : Int) by omega]
    exact dIx_list q1 (by rw [List.getElem?_map, hy]; rfl)
  have e2 : eLst (lCons (eCall T 5 (lCons (eBin dIx (eVar 3) (eVar 7)) (lCons (eBin dIx (eVar 3) (eBin dAdd (eVar 7) (eC (.int 1)))) (lNil)))) (lNil)) (E12 q j2 (some (tbD (gL L))) j5 j6 (some (.int (a : Nat))) j8 j9 j10) S1 = .ok (.ref S1.length) S2 := by
    rw [hS2]
    exact lst_ok (l1_ok (callL_ok (l2_ok (bi_ok (x := .ref q) (y := .int (a : Nat)) rfl rfl dx) (bi_ok (x := .ref q) (y := .int ((a : Int) + 1)) rfl (bi_ok (x := .int (a : Nat)) (y := .int 1) rfl rfl rfl) dy)) (H.glue x y S1 gy hxy))) (by simp [cap])
  have a3 : dAdd (.ref S.length) (.ref S1.length) S2 = .ok (.ref S2.length) S3 := by
    simp only [dAdd, c12, c2]
    rw [if_pos (by simp [cap]; omega), hS3, List.map_append]
  have e4 : eCut (eVar 3) (oSome (eBin dAdd (eVar 7) (eC (.int 2)))) oNone (E12 q j2 (some (tbD (gL L))) j5 j6 (some (.int (a : Nat))) j8 j9 j10) S3 = .ok (.ref S3.length) S4 := (cut_hi_ok (a := a + 2) rfl (bi_ok (x := .int (a : Nat)) (y := .int 2) rfl rfl (by
    show Out.ok (D.int ((a : Int) + 2)) _ = _
    rw [show ((a : Int) + 2) = ((a + 2 : Nat) : Int) by omega])) q3).trans (by rw [hS4])
  have a5 : dAdd (.ref S2.length) (.ref S3.length) S4 = .ok (.ref S4.length) S5 := by
    simp only [dAdd, c34, c4]
    rw [if_pos (by simp [cap]; omega), hS5, hW, ← List.map_append, List.append_assoc, List.singleton_append]
  have hWne : W ≠ [] := by rw [hW]; simp
  have gW : ∀ z ∈ W, Good z := fun z hz => by
    rw [hW] at hz
    rcases List.mem_append.mp hz with k | k
    · exact R.good z (List.mem_of_mem_take k)
    · rcases List.mem_cons.mp k with k | k
      · rw [k]; exact glue_good gx gy
      · exact R.good z (List.mem_of_mem_drop k)
  have e6 := H.gl S4.length W S5 c5 hWne gW (by rw [hpW]; exact R.pr) (by rw [hW]; simp; omega)
  rw [hgW] at e6
  obtain ⟨N, hN⟩ : ∃ N, S5 = S ++ N := ⟨_, by rw [hS5, hS4, hS3, hS2, hS1]; simp only [List.append_assoc]; rfl⟩
  refine ⟨N, ?_⟩
  rw [← hN]
  unfold d13_b2
  exact if_skp (tOf_ok (bi_ok (y := tbD (gL L)) (callL_ok (l1_ok (bi_ok (bi_ok e1 e2 a3) e4 a5)) e6) rfl ((dEq_tb R.small).trans (by simp))))
end
end Ev

namespace Ev
open PySem L2
section
variable {T : Tab} {q : Nat} {L : List Tb} {j2 j4 j5 j6 j7 j8 j9 j10 : Option D}
theorem it_row {S : Store} {eta : Env} (h : eVar 3 eta S = .ok (.ref q) S) (hq : S[q]? = some (.lst (L.map tbD))) : itE (eVar 3) eta S = .ok (itLive q) S := by
  simp only [itE, h, Out.bind, itD, liveAt, hq]
theorem b0_loop (H : H12 T) (hp : pr L ≤ 60) (hl : L.length ≤ 4) {S : Store} (hq : S[q]? = some (.lst (L.map tbD))) : ∃ x6, sFor (itE (eVar 3)) (.nm 6) (d13_b0 T) (E12 q j2 j4 (some (.int 1)) j6 j7 j8 j9 j10) S = .nx (E12 q j2 j4 (some (.int (pr L : Nat))) x6 j7 j8 j9 j10) S := by
  refine sfor_ds (L.map tbD) (R := fun o => ∃ x6, o = .nx (E12 q j2 j4 (some (.int (pr L : Nat))) x6 j7 j8 j9 j10) S) (it_row rfl hq) (fun i eta S' => ∃ x6, eta = E12 q j2 j4 (some (.int (pr (L.take i) : Nat))) x6 j7 j8 j9 j10 ∧ S' = S) (by rw [List.length_map]; omega) (fun i eta S' ⟨x6, e1, e2⟩ => by
      subst e2
      simp only [itLive, liveAt, hq, Option.map_some]) ⟨j6, rfl, rfl⟩ (fun i d eta S' hd ⟨x6, e1, e2⟩ => ?_) (fun eta S' ⟨x6, e1, e2⟩ => by
      subst e1; subst e2
      rw [List.length_map, List.take_length]
      exact ⟨_, rfl⟩)
  subst e1; subst e2
  rw [List.getElem?_map] at hd
  obtain ⟨x, hx, rfl⟩ := Option.map_eq_some_iff.mp hd
  refine ⟨E12 q j2 j4 (some (.int (pr (L.take i) : Nat))) (some (tbD x)) j7 j8 j9 j10, rfl, ?_⟩
  have e64 : (2 : Int) ^ 64 = 18446744073709551616 := by decide
  have hx60 : tsz x ≤ 60 := Nat.le_trans (pr_mem (List.mem_of_getElem? hx)) hp
  have et : L.take (i + 1) = L.take i ++ [x] := by rw [List.take_add_one, hx]; rfl
  have hm : dMulA (.int (pr (L.take i) : Nat)) (.int (tsz x : Nat)) S' = .ok (.int (pr (L.take (i + 1)) : Nat)) S' := by
    have hk : mulOk (pr (L.take i) : Nat) (tsz x : Nat) = true := mul1 (by omega)
    simp only [dMulA, dMul, hk, if_true]
    rw [et, pr_app, ← Int.natCast_mul]
    have : pr [x] = tsz x := by simp [pr]
    rw [this]
  have eb : d13_b0 T (E12 q j2 j4 (some (.int (pr (L.take i) : Nat))) (some (tbD x)) j7 j8 j9 j10) S' = .nx (E12 q j2 j4 (some (.int (pr (L.take (i + 1)) : Nat))) (some (tbD x)) j7 j8 j9 j10) S' :=
    (asg_ok (bi_ok (x := .int (pr (L.take i) : Nat)) rfl (callL_ok (l1_ok rfl) (H.ts x S')) hm)).trans rfl
  rw [eb]
  exact ⟨_, rfl, rfl⟩
theorem len_row {S : Store} {eta : Env} (h : eVar 3 eta S = .ok (.ref q) S) (hq : S[q]? = some (.lst (L.map tbD))) : eB bLen (lCons (eVar 3) lNil) eta S = .ok (.int (L.length : Nat)) S :=
  bL_ok (l1_ok h) (by simp only [bLen, hq, List.length_map])
theorem b1_loop (H : H12 T) (R : Row L) {S : Store} (hq : S[q]? = some (.lst (L.map tbD))) : ∃ x7 N, sFor (itRange2 (lCons (eC (.int 1)) (lCons (eB bLen (lCons (eVar 3) (lNil))) (lNil)))) (.nm 7) (d13_b1 T) (E12 q j2 (some (tbD (gL L))) j5 j6 j7 j8 j9 j10) S = .nx (E12 q j2 (some (tbD (gL L))) j5 j6 x7 j8 j9 j10) (S ++ N) := by
  have hl := R.len
  have h0 : 1 ≤ L.length := List.length_pos_iff.mpr R.ne
  obtain ⟨eta', S', hf, x7, N, rfl, rfl⟩ := sfor_rg (it := itRange2 (lCons (eC (.int 1)) (lCons (eB bLen (lCons (eVar 3) (lNil))) (lNil)))) (t := .nm 7) (b := d13_b1 T) (eta := E12 q j2 (some (tbD (gL L))) j5 j6 j7 j8 j9 j10) (M := S) (lo := 1) (n := L.length - 1)
    ((range2_ok (i := 1) (j := (L.length : Nat)) rfl (len_row rfl hq) (by omega)).trans (by rw [show ((L.length : Int) - 1).toNat = L.length - 1 by omega])) (by omega) (fun i eta S' => ∃ x7 N, eta = E12 q j2 (some (tbD (gL L))) j5 j6 x7 j8 j9 j10 ∧ S' = S ++ N) ⟨j7, [], rfl, by rw [List.append_nil]⟩ (fun i eta S' hi ⟨x7, N, e1, e2⟩ => by
      subst e1; subst e2
      obtain ⟨N', hb⟩ := b1_ok' H R (q := q) (j2 := j2) (j5 := j5) (j6 := j6) (j8 := j8) (j9 := j9) (j10 := j10) (S := S ++ N) (app_old hq _) (a := i + 1) (by omega) (by omega)
      rw [show (((i + 1 : Nat) : Int)) = 1 + (i : Int) by omega] at hb
      exact ⟨_, rfl, _, _, hb, _, N ++ N', rfl, by rw [List.append_assoc]⟩)
  exact ⟨x7, N, hf⟩
theorem b2_loop (H : H12 T) (R : Row L) {S : Store} (hq : S[q]? = some (.lst (L.map tbD))) : ∃ x7 N, sFor (itRange1 (lCons (eBin dSub (eB bLen (lCons (eVar 3) (lNil))) (eC (.int 1))) (lNil))) (.nm 7) (d13_b2 T) (E12 q j2 (some (tbD (gL L))) j5 j6 j7 j8 j9 j10) S = .nx (E12 q j2 (some (tbD (gL L))) j5 j6 x7 j8 j9 j10) (S ++ N) := by
  have hl := R.len
  have h0 : 1 ≤ L.length := List.length_pos_iff.mpr R.ne
  obtain ⟨eta', S', hf, x7, N, rfl, rfl⟩ := sfor_rg (it := itRange1 (lCons (eBin dSub (eB bLen (lCons (eVar 3) (lNil))) (eC (.int 1))) (lNil))) (t := .nm 7) (b := d13_b2 T) (eta := E12 q j2 (some (tbD (gL L))) j5 j6 j7 j8 j9 j10) (M := S) (lo := 0) (n := L.length - 1)
    ((range1_ok (j := (L.length : Int) - 1) (bi_ok (x := .int (L.length : Nat)) (y := .int 1) (len_row rfl hq) rfl rfl) (by omega)).trans (by rw [show ((L.length : Int) - 1).toNat = L.length - 1 by omega])) (by omega) (fun i eta S' => ∃ x7 N, eta = E12 q j2 (some (tbD (gL L))) j5 j6 x7 j8 j9 j10 ∧ S' = S ++ N) ⟨j7, [], rfl, by rw [List.append_nil]⟩ (fun i eta S' hi ⟨x7, N, e1, e2⟩ => by
      subst e1; subst e2
      obtain ⟨N', hb⟩ := b2_ok' H R (q := q) (j2 := j2) (j5 := j5) (j6 := j6) (j8 := j8) (j9 := j9) (j10 := j10) (S := S ++ N) (app_old hq _) (a := i) (by omega)
      rw [show ((i : Nat) : Int) = 0 + (i : Int) by omega] at hb
      exact ⟨_, rfl, _, _, hb, _, N ++ N', rfl, by rw [List.append_assoc]⟩)
  exact ⟨x7, N, hf⟩
theorem toPy_rf {M : Store} {k n : Nat} {ds : List D} (h : M[n]? = some (.lst ds)) : toPy M (k + 1) (.ref n) = (allBy (toPy M k) ds).map .list := by
  rw [toPy]
  generalize toPy M k = f
  simp only [pyD, h]
theorem dEq_bls {M : Store} {m n : Nat} {b : Bool} (h1 : M[m]? = some (.lst [.bl b, .bl b])) (h2 : M[n]? = some (.lst [.bl b, .bl b])) : dEq true (.ref m) (.ref n) M = .ok (.bl false) M := by
  have e : ∀ k, toPy M k (.bl b) = some (.bool b) := fun k => toPy_some rfl
  have e2 : allBy (toPy M 5) [.bl b, .bl b] = some [.bool b, .bool b] := by simp only [allBy, e]
  simp only [dEq, toPy_rf h1, toPy_rf h2, e2, Option.map_some]
  cases b <;> rfl
theorem b3_ok' (H : H12 T) {s s' t : Tb} {S : Store} (gs : Good s) (gs' : Good s') (gt : Good t) (hl : s.length = s'.length) (hp : tsz s * tsz t ≤ 60) :
    ∃ x10 N, d13_b3 T (E12 q j2 j4 j5 (some (tbD t)) j7 (some (tbD s)) (some (tbD s')) j10) S = .nx (E12 q j2 j4 j5 (some (tbD t)) j7 (some (tbD s)) (some (tbD s')) x10) (S ++ N) := by
  have e' : tsz s' = tsz s := by show s'.length + 1 = s.length + 1; rw [hl]
  have hsm : ∀ {u v : Tb}, Good u → Good v → tsz u * tsz v ≤ 60 → ∀ x ∈ glue u v, x.sz ≤ 149 := fun {u v} gu gv hb x hx => by
    have := (glue_good gu gv).mem hx
    rw [glue_tsz] at this
    omega
  obtain ⟨b, hb⟩ : ∃ b, b = decide (s = s') := ⟨_, rfl⟩
  obtain ⟨S1, hS1⟩ : ∃ S1, S1 = S ++ [MO.lst [D.bl b, D.bl b]] := ⟨_, rfl⟩
  obtain ⟨S2, hS2⟩ : ∃ S2, S2 = S1 ++ [MO.lst [D.bl b]] := ⟨_, rfl⟩
  obtain ⟨S3, hS3⟩ : ∃ S3, S3 = S2 ++ [MO.lst [D.bl b, D.bl b]] := ⟨_, rfl⟩
  have c1 : S1[S.length]? = some (.lst [.bl b, .bl b]) := by rw [hS1]; exact app_at _ _ _
  have c2 : S2[S1.length]? = some (.lst [.bl b]) := by rw [hS2]; exact app_at _ _ _
  have c3 : S3[S2.length]? = some (.lst [.bl b, .bl b]) := by rw [hS3]; exact app_at _ _ _
  have c13 : S3[S.length]? = some (.lst [.bl b, .bl b]) := by rw [hS3, hS2]; exact app_old (app_old c1 _) _
  have hp2 : tsz t * tsz s ≤ 60 := by rw [Nat.mul_comm]; exact hp
  have eq1 : dEq false (tbD (glue s t)) (tbD (glue s' t)) S = .ok (.bl b) S := (dEq_tb (hsm gs gt hp)).trans (by
    rw [hb]
    simp only [Bool.false_eq_true, if_false]
    congr 3
    exact propext (glue_inj_left hl))
  have eq2 : dEq false (tbD (glue t s)) (tbD (glue t s')) S = .ok (.bl b) S := (dEq_tb (hsm gt gs hp2)).trans (by
    rw [hb]
    simp only [Bool.false_eq_true, if_false]
    congr 3
    exact propext (glue_inj_right gs gs' hl))
  have hss : ∀ x ∈ s, x.sz ≤ 149 := fun x hx => by
    have := gs.mem hx
    have := Nat.le_trans (Nat.le_mul_of_pos_right (tsz s) (tsz_pos t)) hp
    omega
  have eq3 : dEq false (tbD s) (tbD s') S1 = .ok (.bl b) S1 := (dEq_tb hss).trans (by rw [hb]; rfl)
  have el : eLst (lCons (eBin (dEq false) (eCall T 5 (lCons (eVar 8) (lCons (eVar 6) (lNil)))) (eCall T 5 (lCons (eVar 9) (lCons (eVar 6) (lNil))))) (lCons (eBin (dEq false) (eCall T 5 (lCons (eVar 6) (lCons (eVar 8) (lNil)))) (eCall T 5 (lCons (eVar 6) (lCons (eVar 9) (lNil))))) (lNil))) (E12 q j2 j4 j5 (some (tbD t)) j7 (some (tbD s)) (some (tbD s')) j10) S = .ok (.ref S.length) S1 := by
    rw [hS1]
    exact lst_ok (l2_ok (bi_ok (callL_ok (l2_ok rfl rfl) (H.glue s t S gt hp)) (callL_ok (l2_ok rfl rfl) (H.glue s' t S gt (by rw [e']; exact hp))) eq1) (bi_ok (callL_ok (l2_ok rfl rfl) (H.glue t s S gs hp2)) (callL_ok (l2_ok rfl rfl) (H.glue t s' S gs' (by rw [e']; exact hp2))) eq2)) (by simp [cap])
  have em : dMulA (.ref S1.length) (.int 2) S2 = .ok (.ref S2.length) S3 := by
    simp only [dMulA, dMul, c2]
    rw [if_pos (by simp [cap]), hS3]
    rfl
  have el2 : eLst (lCons (eBin (dEq false) (eVar 8) (eVar 9)) (lNil)) (E12 q j2 j4 j5 (some (tbD t)) j7 (some (tbD s)) (some (tbD s')) (some (.ref S.length))) S1 = .ok (.ref S1.length) S2 := by
    rw [hS2]
    exact lst_ok (l1_ok (bi_ok (x := tbD s) (y := tbD s') rfl rfl eq3)) (by simp [cap])
  obtain ⟨N, hN⟩ : ∃ N, S3 = S ++ N := ⟨_, by rw [hS3, hS2, hS1]; simp only [List.append_assoc]; rfl⟩
  refine ⟨some (.ref S.length), N, ?_⟩
  rw [← hN]
  unfold d13_b3
  rw [seq_nx (asg_ok el)]
  show sIf _ _ _ (E12 q j2 j4 j5 (some (tbD t)) j7 (some (tbD s)) (some (tbD s')) (some (.ref S.length))) S1 = _
  exact if_skp (tOf_ok (bi_ok (x := .ref S.length) (y := .ref S2.length) rfl (bi_ok (y := .int 2) el2 rfl em) (dEq_bls c13 c3)))
theorem tabs_ok (H : H12 T) {S : Store} (hs : Src S 1 3) {j3 : Option D} : ∃ (S2 : Store) (q : Nat) (L : List Tb), eLc (itE (eCall T 12 (lCons (eVar 1) (lCons (eC (.int 4)) (lCons (eC (.int 60)) (lNil)))))) (.nm 5) [5] (tYesE) (d13_e0 T) [some (.ref 0), some (.ref 1), j2, j3, j4, j5, j6, j7, j8, j9, j10] S = .ok (.ref q) S2 ∧ S2[q]? = some (.lst (L.map tbD)) ∧ Row L ∧ (∀ x ∈ L, 2 ≤ tsz x) ∧ Src S2 1 3 ∧ 4 ≤ q := by
  obtain ⟨M1, sz, p1, z0, z1, z2, z3, s1, t1⟩ := H.sized S hs
  have hz60 : ∀ n ∈ sz, n ≤ 60 := fun n hn => by
    obtain ⟨A, B, rfl⟩ := List.append_of_mem hn
    have hpos : ∀ l : List Nat, (∀ n ∈ l, 2 ≤ n) → 1 ≤ l.prod := fun l => by
      induction l with
      | nil => intro _; simp
      | cons x l ih => intro h; rw [List.prod_cons]; exact Nat.mul_pos (by have := h x (List.mem_cons_self ..); omega) (ih fun y hy => h y (List.mem_cons_of_mem _ hy))
    rw [List.prod_append, List.prod_cons] at z3
    have h1 := hpos A fun y hy => z2 y (by simp [hy])
    have h2 := hpos B fun y hy => z2 y (by simp [hy])
    exact Nat.le_trans (Nat.le_trans (Nat.le_mul_of_pos_right _ h2) (Nat.le_mul_of_pos_left _ h1)) z3
  have key : ∃ Mf, lcLoop (itLive M1.length) (.nm 5) [5] tYesE (d13_e0 T) [some (.ref 0), some (.ref 1), j2, j3, j4, j5, j6, j7, j8, j9, j10] (M1 ++ [MO.lst (nI sz)]).length FUEL 0 ((M1 ++ [MO.lst (nI sz)]) ++ .lst [] :: []) = .ok (.ref (M1 ++ [MO.lst (nI sz)]).length) Mf ∧
      ∃ (M' : Store) (L : List Tb), Mf = (M' ++ [MO.lst (nI sz)]) ++ .lst (L.map tbD) :: [] ∧ M'.length = M1.length ∧ Src M' 1 3 ∧ L.map tsz = sz ∧ ∀ x ∈ L, Good x := by
    refine lc_rule (R := fun Mf => ∃ (M' : Store) (L : List Tb), Mf = (M' ++ [MO.lst (nI sz)]) ++ .lst (L.map tbD) :: [] ∧ M'.length = M1.length ∧ Src M' 1 3 ∧ L.map tsz = sz ∧ ∀ x ∈ L, Good x) sz.length
      (fun i P acc N => i ≤ sz.length ∧ N = [] ∧ ∃ (M' : Store) (L : List Tb), P = M' ++ [MO.lst (nI sz)] ∧ acc = L.map tbD ∧ M'.length = M1.length ∧ Src M' 1 3 ∧ L.map tsz = sz.take i ∧ ∀ x ∈ L, Good x)
      (fun i P acc N ⟨hi, _, M', L, e1, e2, e3, _, e4, _⟩ => by
        subst e1; subst e2
        have : L.length ≤ 4 := by
          have := congrArg List.length e4
          rw [List.length_map, List.length_take] at this
          omega
        exact ⟨by simp [e3], by rw [List.length_map]; unfold cap; omega⟩)
      (fun P acc N ⟨hi, e0, M', L, e1, e2, e3, s2, e4, g⟩ => by
        subst e0; subst e1; subst e2
        rw [List.take_length] at e4
        refine ⟨?_, M', L, rfl, e3, s2, e4, g⟩
        have : ((M' ++ [MO.lst (nI sz)]) ++ .lst (L.map tbD) :: [])[M1.length]? = some (.lst (nI sz)) := app_old (app_at' e3 _ _) _
        simp only [itLive, liveAt, this, Option.map_some]
        simp [nI])
      (fun i P acc N hi ⟨_, e0, M', L, e1, e2, e3, s2, e4, g⟩ => ?_) FUEL 0 _ [] [] (by unfold FUEL; omega) (Nat.zero_le _) ⟨Nat.zero_le _, rfl, M1, [], rfl, rfl, rfl, s1, rfl, fun x hx => by simp at hx⟩
    subst e0; subst e1; subst e2
    have hn : sz[i] ∈ sz := List.getElem_mem hi
    obtain ⟨tb, Q, p2, g2, t2, s3, b3⟩ := H.tb sz[i] ((M' ++ [MO.lst (nI sz)]) ++ .lst (L.map tbD) :: []) ((s2.app _).app _) (z2 _ hn) (hz60 _ hn)
    obtain ⟨Q2, rfl, s4, b4, l4⟩ := draw_split (s2.app _) s3 b3
    obtain ⟨Q3, rfl, s5, b5, l5⟩ := draw_split s2 s4 b4
    have hat : ((M' ++ [MO.lst (nI sz)]) ++ .lst (L.map tbD) :: [])[M1.length]? = some (.lst (nI sz)) := app_old (app_at' e3 _ _) _
    refine ⟨.int (sz[i] : Nat), [some (.ref 0), some (.ref 1), j2, j3, j4, some (.int (sz[i] : Nat)), j6, j7, j8, j9, j10], by
      simp only [itLive, liveAt, hat, Option.map_some]
      simp [nI, hi], rfl, .inl ⟨rfl, tbD tb, Q3 ++ [MO.lst (nI sz)], [], callL_ok (l2_ok rfl rfl) p2, by simp [l5, e3], by omega, rfl, Q3, L ++ [tb], rfl, by simp, by rw [l5, e3], s5, ?_, fun x hx => ?_⟩⟩
    · rw [List.map_append, e4, List.take_add_one, List.getElem?_eq_getElem hi]
      simp [t2]
    · rcases List.mem_append.mp hx with z | z
      · exact g x z
      · rw [List.mem_singleton.mp z]; exact g2
  obtain ⟨Mf, k1, M', L, rfl, l1, s2, e4, g⟩ := key
  refine ⟨_, _, L, lc_of (J := itLive M1.length) (M1 := M1 ++ [MO.lst (nI sz)]) ?_ k1, app_at' (by simp [l1]) _ _, ⟨fun z => ?_, g, by rw [pr, e4]; exact z3, ?_⟩, fun x hx => ?_, (s2.app _).app _, by have := s1.lt; rw [List.length_append]; simp only [List.length_cons, List.length_nil]; omega⟩
  · have : eCall T 12 (lCons (eVar 1) (lCons (eC (.int 4)) (lCons (eC (.int 60)) (lNil)))) [some (.ref 0), some (.ref 1), j2, j3, j4, j5, j6, j7, j8, j9, j10] S = .ok (.ref M1.length) (M1 ++ [MO.lst (nI sz)]) := callL_ok (lc_ok rfl (l2_ok rfl rfl)) p1
    simp only [itE, this, Out.bind, itD, liveAt, app_at]
  · rw [z] at e4; exact z0 e4.symm
  · have := congrArg List.length e4
    rw [List.length_map] at this
    omega
  · have : tsz x ∈ L.map tsz := List.mem_map.mpr ⟨x, hx, rfl⟩
    rw [e4] at this
    exact z2 _ this
end
end Ev

namespace Ev
open PySem L2
theorem cut_12 (s : Tb) (X : List Tb) : cutD ((s :: X).map tbD) (some 1) (some 2) = (X.take 1).map tbD := by
  unfold cutD
  have e1 : HT.sIx ((s :: X).map tbD).length 0 (some 1) = 1 := by
    show HT.sIx _ 0 (some ((1 : Nat) : Int)) = 1
    rw [HT.sIx_nat]; simp
  have e2 : HT.sIx ((s :: X).map tbD).length ((s :: X).map tbD).length (some 2) = min 2 (X.length + 1) := by
    show HT.sIx _ _ (some ((2 : Nat) : Int)) = _
    rw [HT.sIx_nat]; simp
  rw [e1, e2, List.map_cons, List.drop_succ_cons, List.drop_zero]
  match X with
  | [] => rfl
  | y :: Y => 
    have : min 2 ((y :: Y).length + 1) - 1 = 1 := by simp only [List.length_cons]; omega
    rw [this, List.map_take]
section
variable {T : Tab} {j2 j3 j4 j5 j6 j7 j8 j9 j10 : Option D}
theorem turn12 (H : H12 T) {S : Store} (hs : Src S 1 3) : ∃ x3 x4 x5 x6 x7 x8 x9 x10 S', d13_b4 T [some (.ref 0), some (.ref 1), j2, j3, j4, j5, j6, j7, j8, j9, j10] S = .nx [some (.ref 0), some (.ref 1), j2, x3, x4, x5, x6, x7, x8, x9, x10] S' ∧ Src S' 1 3 := by
  obtain ⟨A, q, L, g1, hq, R, h2, sA, q4⟩ := tabs_ok H hs (j2 := j2) (j3 := j3) (j4 := j4) (j5 := j5) (j6 := j6) (j7 := j7) (j8 := j8) (j9 := j9) (j10 := j10)
  have hlen := R.len
  have g2 := H.gl q L A hq R.ne R.good R.pr (by omega)
  have g2' : sPar [4, 5] (lCons (eCall T 6 (lCons (eVar 3) (lNil))) (lCons (eC (.int 1)) (lNil))) (E12 q j2 j4 j5 j6 j7 j8 j9 j10) A = .nx (E12 q j2 (some (tbD (gL L))) (some (.int 1)) j6 j7 j8 j9 j10) A := (par2_ok (l2_ok (callL_ok (l1_ok rfl) g2) rfl)).trans rfl
  obtain ⟨x6, g3⟩ := b0_loop H R.pr hlen hq (j2 := j2) (j4 := some (tbD (gL L))) (j6 := j6) (j7 := j7) (j8 := j8) (j9 := j9) (j10 := j10)
  have hts := gL_tsz R.ne
  have hpp := pr_pos L
  have g4 : tOrr (tOf (eBin (dEq true) (eCall T 0 (lCons (eVar 4) (lNil))) (eVar 5))) (tOf (eBin (dEq true) (eB bLen (lCons (eVar 4) (lNil))) (eBin dSub (eVar 5) (eC (.int 1))))) (E12 q j2 (some (tbD (gL L))) (some (.int (pr L : Nat))) x6 j7 j8 j9 j10) A = .ok false A := by
    refine tOrr_no (tOf_ok (bi_ok (y := .int (pr L : Nat)) (callL_ok (l1_ok rfl) (H.ts (gL L) A)) rfl (eqI.trans (by rw [decide_eq_true (show ((tsz (gL L) : Nat) : Int) = ((pr L : Nat) : Int) by rw [hts])]; rfl)))) (tOf_ok (bi_ok (x := .int ((gL L).length : Nat)) (y := .int ((pr L : Int) - 1)) (bL_ok (l1_ok rfl) (by
      show Out.ok (D.int (((gL L).map Sh.toD).length : Nat)) A = _
      rw [List.length_map])) (bi_ok (x := .int (pr L : Nat)) (y := .int 1) rfl rfl rfl) (eqI.trans (by
      have e : (((gL L).length : Nat) : Int) = (pr L : Int) - 1 := by
        have : (gL L).length + 1 = pr L := hts
        omega
      rw [decide_eq_true e]
      rfl))))
  obtain ⟨x7, N1, g5⟩ := b1_loop H R hq (j2 := j2) (j5 := some (.int (pr L : Nat))) (j6 := x6) (j7 := j7) (j8 := j8) (j9 := j9) (j10 := j10)
  have hq1 : (A ++ N1)[q]? = some (.lst (L.map tbD)) := app_old hq _
  obtain ⟨x7', N2, g6⟩ := b2_loop H R hq1 (j2 := j2) (j5 := some (.int (pr L : Nat))) (j6 := x6) (j7 := x7) (j8 := j8) (j9 := j9) (j10 := j10)
  have hq2 : (A ++ N1 ++ N2)[q]? = some (.lst (L.map tbD)) := app_old hq1 _
  have s2 : Src (A ++ N1 ++ N2) 1 3 := (sA.app _).app _
  obtain ⟨s, X, rfl⟩ : ∃ s X, L = s :: X := by
    match L, R.ne with
    | s :: X, _ => exact ⟨s, X, rfl⟩
  have ms : s ∈ s :: X := List.mem_cons_self ..
  have hs60 : tsz s ≤ 60 := Nat.le_trans (pr_mem ms) R.pr
  obtain ⟨tb, B, p7, gtb, ttb, sB, bB⟩ := H.tb (tsz s) (A ++ N1 ++ N2) s2 (h2 s ms) hs60
  have hqB : B[q]? = some (.lst ((s :: X).map tbD)) := by rw [bB.at_ q (by omega) (by omega)]; exact hq2
  have hi0 : dIx (.ref q) (.int 0) (A ++ N1 ++ N2) = .ok (tbD s) (A ++ N1 ++ N2) := dIx_list (i := 0) hq2 rfl
  have eix : eBin dIx (eVar 3) (eC (.int 0)) (E12 q j2 (some (tbD (gL (s :: X)))) (some (.int (pr (s :: X) : Nat))) x6 x7' j8 j9 j10) (A ++ N1 ++ N2) = .ok (tbD s) (A ++ N1 ++ N2) := bi_ok (x := .ref q) (y := .int 0) rfl rfl hi0
  have eln : eBin dAdd (eB bLen (lCons (eBin dIx (eVar 3) (eC (.int 0))) (lNil))) (eC (.int 1)) (E12 q j2 (some (tbD (gL (s :: X)))) (some (.int (pr (s :: X) : Nat))) x6 x7' j8 j9 j10) (A ++ N1 ++ N2) = .ok (.int (tsz s : Nat)) (A ++ N1 ++ N2) :=
    bi_ok (x := .int (s.length : Nat)) (y := .int 1) (bL_ok (l1_ok eix) (by
      show Out.ok (D.int ((s.map Sh.toD).length : Nat)) _ = _
      rw [List.length_map])) rfl rfl
  have g7 : sPar [8, 9] (lCons (eBin dIx (eVar 3) (eC (.int 0))) (lCons (eCall T 11 (lCons (eVar 1) (lCons (eBin dAdd (eB bLen (lCons (eBin dIx (eVar 3) (eC (.int 0))) (lNil))) (eC (.int 1))) (lNil)))) (lNil))) (E12 q j2 (some (tbD (gL (s :: X)))) (some (.int (pr (s :: X) : Nat))) x6 x7' j8 j9 j10) (A ++ N1 ++ N2) = .nx (E12 q j2 (some (tbD (gL (s :: X)))) (some (.int (pr (s :: X) : Nat))) x6 x7' (some (tbD s)) (some (tbD tb)) j10) B :=
    (par2_ok (l2_ok eix (callL_ok (l2_ok rfl eln) p7))).trans rfl
  obtain ⟨C, hC⟩ : ∃ C, C = B ++ [MO.lst ((X.take 1).map tbD)] := ⟨_, rfl⟩
  have cC : C[B.length]? = some (.lst ((X.take 1).map tbD)) := by rw [hC]; exact app_at _ _ _
  have eit : itE (eCut (eVar 3) (oSome (eC (.int 1))) (oSome (eC (.int 2)))) (E12 q j2 (some (tbD (gL (s :: X)))) (some (.int (pr (s :: X) : Nat))) x6 x7' (some (tbD s)) (some (tbD tb)) j10) B = .ok (itLive B.length) C := by
    have : eCut (eVar 3) (oSome (eC (.int 1))) (oSome (eC (.int 2))) (E12 q j2 (some (tbD (gL (s :: X)))) (some (.int (pr (s :: X) : Nat))) x6 x7' (some (tbD s)) (some (tbD tb)) j10) B = .ok (.ref B.length) C := by
      show dCut (.ref q) (some 1) (some 2) B = _
      simp only [dCut, hqB, cut_12]
      rw [hC]
    simp only [itE, this, Out.bind, itD, liveAt, cC]
  have sC : Src C 1 3 := by rw [hC]; exact sB.app _
  have g8 : ∃ y6 y10 N, sFor (itE (eCut (eVar 3) (oSome (eC (.int 1))) (oSome (eC (.int 2))))) (.nm 6) (d13_b3 T) (E12 q j2 (some (tbD (gL (s :: X)))) (some (.int (pr (s :: X) : Nat))) x6 x7' (some (tbD s)) (some (tbD tb)) j10) B = .nx (E12 q j2 (some (tbD (gL (s :: X)))) (some (.int (pr (s :: X) : Nat))) y6 x7' (some (tbD s)) (some (tbD tb)) y10) (C ++ N) := by
    refine sfor_ds ((X.take 1).map tbD) (R := fun o => ∃ y6 y10 N, o = .nx (E12 q j2 (some (tbD (gL (s :: X)))) (some (.int (pr (s :: X) : Nat))) y6 x7' (some (tbD s)) (some (tbD tb)) y10) (C ++ N)) eit (fun i eta S' => ∃ y6 y10 N, eta = E12 q j2 (some (tbD (gL (s :: X)))) (some (.int (pr (s :: X) : Nat))) y6 x7' (some (tbD s)) (some (tbD tb)) y10 ∧ S' = C ++ N) (by rw [List.length_map, List.length_take]; omega) (fun i eta S' ⟨y6, y10, N, e1, e2⟩ => by
        subst e2
        simp only [itLive, liveAt, app_old cC, Option.map_some]) ⟨x6, j10, [], rfl, by rw [List.append_nil]⟩ (fun i d eta S' hd ⟨y6, y10, N, e1, e2⟩ => ?_) (fun eta S' ⟨y6, y10, N, e1, e2⟩ => by subst e1; subst e2; exact ⟨_, _, _, rfl⟩)
    subst e1; subst e2
    rw [List.getElem?_map] at hd
    obtain ⟨t, ht, rfl⟩ := Option.map_eq_some_iff.mp hd
    have mt : t ∈ X := List.mem_of_mem_take (List.mem_of_getElem? ht)
    have hp : tsz s * tsz t ≤ 60 := by
      have e : pr (s :: X) = tsz s * pr X := by rw [pr, List.map_cons, List.prod_cons]
      have := R.pr
      rw [e] at this
      exact Nat.le_trans (Nat.mul_le_mul_left _ (pr_mem mt)) this
    obtain ⟨x10, N', hb⟩ := b3_ok' H (q := q) (j2 := j2) (j4 := some (tbD (gL (s :: X)))) (j5 := some (.int (pr (s :: X) : Nat))) (j7 := x7') (j10 := y10) (S := C ++ N) (R.good s ms) gtb (R.good t (List.mem_cons_of_mem _ mt)) (by
      have : tb.length + 1 = s.length + 1 := ttb
      omega) hp
    refine ⟨E12 q j2 (some (tbD (gL (s :: X)))) (some (.int (pr (s :: X) : Nat))) (some (tbD t)) x7' (some (tbD s)) (some (tbD tb)) y10, rfl, ?_⟩
    rw [hb]
    exact ⟨_, _, N ++ N', rfl, by rw [List.append_assoc]⟩
  obtain ⟨y6, y10, N, g8⟩ := g8
  refine ⟨some (.ref q), some (tbD (gL (s :: X))), some (.int (pr (s :: X) : Nat)), y6, x7', some (tbD s), some (tbD tb), y10, C ++ N, ?_, sC.app _⟩
  unfold d13_b4
  refine (seq_nx (asg_ok g1)).trans ?_
  refine (seq_nx g2').trans ?_
  refine (seq_nx g3).trans ?_
  refine (seq_nx (if_skp g4)).trans ?_
  refine (seq_nx g5).trans ?_
  refine (seq_nx g6).trans ?_
  exact (seq_nx g7).trans g8
end
theorem pg7 : Prog[7]? = some ⟨3, 1, d7⟩ := rfl
theorem pg13 : Prog[13]? = some ⟨11, 1, d13⟩ := rfl
theorem ent13 {k : Nat} {M : Store} : tabOf Prog (k + 1) 13 [.ref 0] M = finS M (d13 (tabOf Prog k) [some (.ref 0), none, none, none, none, none, none, none, none, none, none] M) := tab_at (F := ⟨11, 1, d13⟩) pg13 rfl
theorem fin_bl (M0 M : Store) (b : Bool) : ∃ M', finS M0 (.rt (.bl b) M) = .ok (.bl b) M' := by
  show ∃ M', gc M0 (.bl b) M = .ok (.bl b) M'
  unfold gc
  split
  · exact ⟨_, rfl⟩
  · exact ⟨_, rfl⟩
theorem law_true (ns : List Int) (h : ns.length ≤ 63) : ∃ M, tabOf Prog 200 13 [.ref 0] [.frz (ns.map D.int)] = .ok (.bl true) M := by
  rw [show (200 : Nat) = 199 + 1 by rfl, ent13]
  obtain ⟨A, B, C, hsrc, hs1⟩ := src_ok (P := Prog) (k := 198) pg7 rfl rfl rfl h
  have H := h12
  simp only [show 198 + 1 = 199 by rfl] at hsrc
  generalize tabOf Prog 199 = T at H hsrc ⊢
  obtain ⟨M0, hM0⟩ : ∃ M0, M0 = [MO.frz (ns.map D.int)] := ⟨_, rfl⟩
  obtain ⟨M1, hM1⟩ : ∃ M1, M1 = [MO.frz (ns.map D.int), A, B, C] := ⟨_, rfl⟩
  rw [← hM0] at hsrc ⊢
  rw [← hM1] at hsrc hs1
  have g1 : eCall T 7 (lCons (eVar 0) lNil) [some (.ref 0), none, none, none, none, none, none, none, none, none, none] M0 = .ok (.ref 1) M1 := callL_ok (l1_ok rfl) hsrc
  obtain ⟨eta', S', hf, hs, z2, z3, z4, z5, z6, z7, z8, z9, z10, rfl⟩ := sfor_rg (it := itRange1 (lCons (eC (.int 3)) (lNil))) (t := .nm 2) (b := d13_b4 T) (eta := [some (.ref 0), some (.ref 1), none, none, none, none, none, none, none, none, none]) (M := M1) (lo := 0) (n := 3)
    (range1_ok (j := 3) rfl (by decide)) (by decide) (fun i eta S => Src S 1 3 ∧ ∃ z2 z3 z4 z5 z6 z7 z8 z9 z10, eta = [some (.ref 0), some (.ref 1), z2, z3, z4, z5, z6, z7, z8, z9, z10]) ⟨hs1, none, none, none, none, none, none, none, none, none, rfl⟩ (fun i eta S hi ⟨hs, z2, z3, z4, z5, z6, z7, z8, z9, z10, e⟩ => by
      subst e
      obtain ⟨x3, x4, x5, x6, x7, x8, x9, x10, S', ht, hs'⟩ := turn12 H hs (j2 := some (.int (0 + (i : Int)))) (j3 := z3) (j4 := z4) (j5 := z5) (j6 := z6) (j7 := z7) (j8 := z8) (j9 := z9) (j10 := z10)
      exact ⟨_, rfl, _, _, ht, hs', _, _, _, _, _, _, _, _, _, rfl⟩)
  have body : d13 T [some (.ref 0), none, none, none, none, none, none, none, none, none, none] M0 = .rt (.bl true) S' := by
    unfold d13
    refine (seq_nx (asg_ok g1)).trans ?_
    exact (seq_nx hf).trans (ret_ok rfl)
  rw [body]
  exact fin_bl _ _ _
end Ev

open PySem PySem.W PyProof.Rows
set_option maxRecDepth 100000 in
set_option maxHeartbeats 0 in
theorem PySem.Challenge.cw_lumpplans_k12_whole_brackets_do_not_matt_holds : PySem.Challenge.rw_lumpplans_k12_whole_brackets_do_not_matt.Holds := by
  w_on; o_law; k_head; (case hw => w_witness2)
  k_fill
  refine Ev.walk_ev (l := PySem.Challenge.rw_lumpplans_k12_whole_brackets_do_not_matt) (n := 63) (k := 200) (t := Ev.tabOf Ev.Prog 200 13) rfl (by decide) rfl ⟨rfl, by decide, by decide⟩ (fun w h Y => PySem.W.kIn_of Y) ?F Ev.law_true
  case F =>
    intro w mg fa h KX G hmg
    refine' Ev.all_mk (l := PySem.Challenge.rw_lumpplans_k12_whole_brackets_do_not_matt) KX G hmg ?a0 ?l0 ?c0 ?k0 ?a1 ?l1 ?c1 ?k1 ?a2 ?l2 ?c2 ?k2 ?a3 ?l3 ?c3 ?k3 ?a4 ?l4 ?c4 ?k4 ?a5 ?l5 ?c5 ?k5 ?a6 ?l6 ?c6 ?k6 ?a7 ?l7 ?c7 ?k7 ?a8 ?l8 ?c8 ?k8 ?a9 ?l9 ?c9 ?k9 ?a10 ?l10 ?c10 ?k10 ?a11 ?l11 ?c11 ?k11 ?a12 ?l12 ?c12 ?k12 ?a13 ?l13 ?c13 ?k13 ?z_abs ?z_int ?z_len ?z_max ?z_min ?z_range ?z_tuple
    (case a0 => k_is); (case l0 => k_is); (case c0 => k_is); (case k0 => k_is)
    (case a1 => k_is); (case l1 => k_is); (case c1 => k_is); (case k1 => k_is)
    (case a2 => k_is); (case l2 => k_is); (case c2 => k_is); (case k2 => k_is)
    (case a3 => k_is); (case l3 => k_is); (case c3 => k_is); (case k3 => k_is)
    (case a4 => k_is); (case l4 => k_is); (case c4 => k_is); (case k4 => k_is)
    (case a5 => k_is); (case l5 => k_is); (case c5 => k_is); (case k5 => k_is)
    (case a6 => k_is); (case l6 => k_is); (case c6 => k_is); (case k6 => k_is)
    (case a7 => k_is); (case l7 => k_is); (case c7 => k_is); (case k7 => k_is)
    (case a8 => k_is); (case l8 => k_is); (case c8 => k_is); (case k8 => k_is)
    (case a9 => k_is); (case l9 => k_is); (case c9 => k_is); (case k9 => k_is)
    (case a10 => k_is); (case l10 => k_is); (case c10 => k_is); (case k10 => k_is)
    (case a11 => k_is); (case l11 => k_is); (case c11 => k_is); (case k11 => k_is)
    (case a12 => k_is); (case l12 => k_is); (case c12 => k_is); (case k12 => k_is)
    (case a13 => k_is); (case l13 => k_is); (case c13 => k_is); (case k13 => k_is)
    (case z_abs => k_is)
    (case z_int => k_is)
    (case z_len => k_is)
    (case z_max => k_is)
    (case z_min => k_is)
    (case z_range => k_is)
    (case z_tuple => k_is)
#print axioms PySem.Challenge.cw_lumpplans_k12_whole_brackets_do_not_matt_holds
