import PyProof.Rows.All
import Wide.All
import OpenK.AllK
import Wide.FinOn
import HandS.ForMost
import HandS.ForExc
import HandS.More
import HandS.Style
import HandS.Flow
import HandS.TupAny
import HandS.TupMul
import HandS.TupLen
import HandS.IsInst
import HandS.Walk
import HandS.Zip
import HandS.Rev
import HandS.RevTup
import HandS.RevRange
import HandS.DictTup
import HandS.DictComp
import HandS.SortKw
import HandS.SortRule
import HandS.Deep
import HandS.Star
import HandS.MethStar
import HandS.Lambda
import HandS.Nested
import HandS.OwnEq
import HandS.TryMany
import HandS.ExcField
import HandS.ExcInit
import HandS.ExcSuper
import HandS.TupSets
import HandS.Conv
import HandS.StrMore
import HandS.FStr
import HandS.Wide
import HandS.Defaults
import HandS.CallLocal
import HandS.SetKeys
import HandS.Keys
import HandS.ListItems
import HandS.RaiseMore
import HandS.TupLe
import KE.GoesEnum
import KE.DataMinMax
import HandS.SortInts
import HandS.Codes
import KE.KExcSuper
import KE.SortUse
import PySem.Challenge.RW_lumpplans_k31_pressed_by_hand
set_option Elab.async false
set_option linter.all false
set_option maxRecDepth 100000
namespace Ev
open PySem L2
/-- a value: data as a tree; ref: a place of the store; cst: a thing of the written part (a def, a class, a type); ktp: a tuple of the written part -/
inductive D where
  | non | bl (b : Bool) | int (i : Int) | str (x : Str) | tup (xs : List D) | ref (n : Nat) | cst (v : V) | ktp (xs : List D)
/-- what stands in the store -/
inductive MO where
  | lst (xs : List D)
  | frz (xs : List D)
  | dicK (kvs : List (Key × D))
  | dicT (kvs : List (List Key × D))
  | ins (c : Nat) (fs : List (Str × D))
abbrev Store := List MO
abbrev Env := List (Option D)
inductive Out (α : Type) where
  | ok (a : α) (M : Store)
  | exc (x : Nat) (fs : List (Str × D)) (M : Store)
  | bad
def cap : Nat := 16777216
theorem cap_eq : cap = sizeLine := by decide +kernel
mutual
/-- rho: the addresses of the store's places -/
def Rep (K : PySem.W.Frag) (rho : List Addr) (H : Hp) : D → V → Prop
  | .non, v => v = .non
  | .bl b, v => v = .bl b
  | .int i, v => v = .int i
  | .str x, v => v = .str x
  | .tup ds, v => ∃ a vs, v = .ref a ∧ H a = some (.tup vs) ∧ Reps K rho H ds vs
  | .ktp ds, v => ∃ a vs, v = .ref a ∧ SqT K H a vs ∧ Reps K rho H ds vs
  | .ref n, v => ∃ a, v = .ref a ∧ rho[n]? = some a
  | .cst u, v => v = u
def Reps (K : PySem.W.Frag) (rho : List Addr) (H : Hp) : List D → List V → Prop
  | [], vs => vs = []
  | d :: ds, vs => ∃ v ws, vs = v :: ws ∧ Rep K rho H d v ∧ Reps K rho H ds ws
end
/-- later: more places, the tuples kept -/
structure Ext (rho : List Addr) (H : Hp) (rho' : List Addr) (H' : Hp) : Prop where
  pre : rho <+: rho'
  tups : ∀ b xs, H b = some (.tup xs) → H' b = some (.tup xs)
  frzs : ∀ b o u, H b = some (.frz o u) → H' b = some (.frz o u)
theorem Ext.refl (rho : List Addr) (H : Hp) : Ext rho H rho H := ⟨List.prefix_refl _, fun _ _ h => h, fun _ _ _ h => h⟩
theorem Ext.trans {r r1 r2 : List Addr} {H H1 H2 : Hp} (a : Ext r H r1 H1) (b : Ext r1 H1 r2 H2) : Ext r H r2 H2 :=
  ⟨List.IsPrefix.trans a.pre b.pre, fun c xs h => b.tups c xs (a.tups c xs h), fun c o u h => b.frzs c o u (a.frzs c o u h)⟩
section
variable {K : PySem.W.Frag} {rho rho' : List Addr} {H H' : Hp}
theorem Ext.get (e : Ext rho H rho' H') {n : Nat} {a : Addr} (h : rho[n]? = some a) : rho'[n]? = some a := by
  obtain ⟨t, rfl⟩ := e.pre
  have hn : n < rho.length := (List.getElem?_eq_some_iff.mp h).1
  rw [List.getElem?_append_left hn]; exact h
theorem Ext.rd (e : Ext rho H rho' H') {a : Addr} {vs : List V} (h : Rd H a (.tup vs)) : Rd H' a (.tup vs) := by
  rcases h with h | ⟨o, h⟩
  · exact .inl (e.tups _ _ h)
  · exact .inr ⟨o, e.frzs _ _ _ h⟩
theorem Ext.sq (e : Ext rho H rho' H') {a : Addr} {vs : List V} (h : SqT K H a vs) : SqT K H' a vs := by
  rcases h with h | h
  · exact .inl (e.rd h)
  · exact .inr h
mutual
theorem Rep.mono (e : Ext rho H rho' H') : ∀ (d : D) (v : V), Rep K rho H d v → Rep K rho' H' d v
  | .non, _, h => by simpa only [Rep] using h
  | .bl _, _, h => by simpa only [Rep] using h
  | .int _, _, h => by simpa only [Rep] using h
  | .str _, _, h => by simpa only [Rep] using h
  | .cst _, _, h => by simpa only [Rep] using h
  | .ref n, v, h => by
    simp only [Rep] at h ⊢
    obtain ⟨a, h1, h2⟩ := h
    exact ⟨a, h1, e.get h2⟩
  | .tup ds, v, h => by
    simp only [Rep] at h ⊢
    obtain ⟨a, vs, h1, h2, h3⟩ := h
    exact ⟨a, vs, h1, e.tups _ _ h2, Reps.mono e ds vs h3⟩
  | .ktp ds, v, h => by
    simp only [Rep] at h ⊢
    obtain ⟨a, vs, h1, h2, h3⟩ := h
    exact ⟨a, vs, h1, e.sq h2, Reps.mono e ds vs h3⟩
theorem Reps.mono (e : Ext rho H rho' H') : ∀ (ds : List D) (vs : List V), Reps K rho H ds vs → Reps K rho' H' ds vs
  | [], _, h => by simpa only [Reps] using h
  | d :: ds, vs, h => by
    simp only [Reps] at h ⊢
    obtain ⟨v, ws, h1, h2, h3⟩ := h
    exact ⟨v, ws, h1, Rep.mono e d v h2, Reps.mono e ds ws h3⟩
end
end
section
variable {K : PySem.W.Frag} {rho : List Addr} {H : Hp}
theorem Reps.length : ∀ {ds : List D} {vs : List V}, Reps K rho H ds vs → vs.length = ds.length
  | [], _, h => by simp only [Reps] at h; subst h; rfl
  | d :: ds, vs, h => by
    simp only [Reps] at h
    obtain ⟨v, ws, rfl, _, h3⟩ := h
    simp [Reps.length h3]
theorem Reps.nil : Reps K rho H [] [] := by simp [Reps]
theorem Reps.cons {d : D} {ds : List D} {v : V} {vs : List V} (h : Rep K rho H d v) (h' : Reps K rho H ds vs) : Reps K rho H (d :: ds) (v :: vs) := by
  simp only [Reps]; exact ⟨v, vs, rfl, h, h'⟩
theorem Reps.append : ∀ {ds es : List D} {vs ws : List V}, Reps K rho H ds vs → Reps K rho H es ws → Reps K rho H (ds ++ es) (vs ++ ws)
  | [], _, _, _, h, h' => by simp only [Reps] at h; subst h; exact h'
  | d :: ds, es, vs, ws, h, h' => by
    simp only [Reps] at h
    obtain ⟨v, us, rfl, h2, h3⟩ := h
    exact Reps.cons h2 (Reps.append h3 h')
theorem Reps.get : ∀ {ds : List D} {vs : List V} {i : Nat} {d : D}, Reps K rho H ds vs → ds[i]? = some d → ∃ v, vs[i]? = some v ∧ Rep K rho H d v
  | [], _, i, d, _, e => by simp at e
  | x :: ds, vs, 0, d, h, e => by
    simp only [Reps] at h
    obtain ⟨v, ws, rfl, h2, _⟩ := h
    simp at e; subst e
    exact ⟨v, rfl, h2⟩
  | x :: ds, vs, i + 1, d, h, e => by
    simp only [Reps] at h
    obtain ⟨v, ws, rfl, _, h3⟩ := h
    obtain ⟨w, h4, h5⟩ := Reps.get h3 (by simpa using e)
    exact ⟨w, by simpa using h4, h5⟩
theorem Reps.one {d : D} {vs : List V} (h : Reps K rho H [d] vs) : ∃ v, vs = [v] ∧ Rep K rho H d v := by
  simp only [Reps] at h
  obtain ⟨v, ws, rfl, h2, rfl⟩ := h
  exact ⟨v, rfl, h2⟩
theorem Reps.two {d e : D} {vs : List V} (h : Reps K rho H [d, e] vs) : ∃ v w, vs = [v, w] ∧ Rep K rho H d v ∧ Rep K rho H e w := by
  simp only [Reps] at h
  obtain ⟨v, ws, rfl, h2, w, _, rfl, h3, rfl⟩ := h
  exact ⟨v, w, rfl, h2, h3⟩
theorem Reps.three {d e f : D} {vs : List V} (h : Reps K rho H [d, e, f] vs) : ∃ v w x, vs = [v, w, x] ∧ Rep K rho H d v ∧ Rep K rho H e w ∧ Rep K rho H f x := by
  simp only [Reps] at h
  obtain ⟨v, ws, rfl, h2, w, _, rfl, h3, x, _, rfl, h4, rfl⟩ := h
  exact ⟨v, w, x, rfl, h2, h3, h4⟩
theorem Reps.set : ∀ {ds : List D} {vs : List V} {d : D} {v : V} (i : Nat), Reps K rho H ds vs → Rep K rho H d v → Reps K rho H (ds.set i d) (vs.set i v)
  | [], _, _, _, _, h, _ => by simp only [Reps] at h; subst h; exact Reps.nil
  | x :: ds, vs, d, v, 0, h, r => by
    simp only [Reps] at h
    obtain ⟨u, ws, rfl, h2, h3⟩ := h
    exact Reps.cons r h3
  | x :: ds, vs, d, v, i + 1, h, r => by
    simp only [Reps] at h
    obtain ⟨u, ws, rfl, h2, h3⟩ := h
    exact Reps.cons h2 (Reps.set i h3 r)
theorem Reps.drop : ∀ {ds : List D} {vs : List V} (i : Nat), Reps K rho H ds vs → Reps K rho H (ds.drop i) (vs.drop i)
  | _, _, 0, h => h
  | [], _, i + 1, h => by simp only [Reps] at h; subst h; exact Reps.nil
  | x :: ds, vs, i + 1, h => by
    simp only [Reps] at h
    obtain ⟨u, ws, rfl, h2, h3⟩ := h
    exact Reps.drop i h3
theorem Reps.take : ∀ {ds : List D} {vs : List V} (i : Nat), Reps K rho H ds vs → Reps K rho H (ds.take i) (vs.take i)
  | _, _, 0, _ => Reps.nil
  | [], _, i + 1, h => by simp only [Reps] at h; subst h; exact Reps.nil
  | x :: ds, vs, i + 1, h => by
    simp only [Reps] at h
    obtain ⟨u, ws, rfl, h2, h3⟩ := h
    exact Reps.cons h2 (Reps.take i h3)
theorem Reps.erase : ∀ {ds : List D} {vs : List V} (i : Nat), Reps K rho H ds vs → Reps K rho H (ds.eraseIdx i) (vs.eraseIdx i)
  | [], _, _, h => by simp only [Reps] at h; subst h; exact Reps.nil
  | x :: ds, vs, 0, h => by
    simp only [Reps] at h
    obtain ⟨u, ws, rfl, h2, h3⟩ := h
    exact h3
  | x :: ds, vs, i + 1, h => by
    simp only [Reps] at h
    obtain ⟨u, ws, rfl, h2, h3⟩ := h
    exact Reps.cons h2 (Reps.erase i h3)
theorem Reps.rep {ds : List D} {vs : List V} (h : Reps K rho H ds vs) : ∀ k : Nat, Reps K rho H (List.replicate k ds).flatten (List.replicate k vs).flatten
  | 0 => Reps.nil
  | k + 1 => by
    rw [List.replicate_succ, List.replicate_succ, List.flatten_cons, List.flatten_cons]
    exact Reps.append h (Reps.rep h k)
theorem Reps.dropLast {ds : List D} {vs : List V} (h : Reps K rho H ds vs) : Reps K rho H ds.dropLast vs.dropLast := by
  rw [List.dropLast_eq_take, List.dropLast_eq_take, h.length]
  exact Reps.take _ h
end
/-- pairs of a key and a value -/
def RepKV {κ : Type} (K : PySem.W.Frag) (rho : List Addr) (H : Hp) (ds : List (κ × D)) (vs : List (κ × V)) : Prop :=
  ds.map (·.1) = vs.map (·.1) ∧ Reps K rho H (ds.map (·.2)) (vs.map (·.2))
theorem RepKV.mono {κ : Type} {K : PySem.W.Frag} {rho rho' : List Addr} {H H' : Hp} {ds : List (κ × D)} {vs : List (κ × V)} (e : Ext rho H rho' H') (h : RepKV K rho H ds vs) : RepKV K rho' H' ds vs :=
  ⟨h.1, h.2.mono e⟩
/-- a list that nobody writes -/
def FrzL (K : PySem.W.Frag) (H : Hp) (a : Addr) (vs : List V) : Prop :=
  (∃ o, H a = some (.frz o (.lst vs))) ∨
    ∃ (o : Obj) (its : Array Value) (n : Nat), K.lookup a = some o ∧ o.cls = .type "list" ∧ o.dict = none ∧ o.data = .seq its n ∧ its.size ≤ sizeLine ∧ Vals vs its.toList
theorem FrzL.sq {K : PySem.W.Frag} {H : Hp} {a : Addr} {vs : List V} (h : FrzL K H a vs) : SqL K H a vs := by
  rcases h with ⟨o, h⟩ | h
  · exact .inl (.inr ⟨o, h⟩)
  · exact .inr h
theorem FrzL.mono {K : PySem.W.Frag} {rho rho' : List Addr} {H H' : Hp} {a : Addr} {vs : List V} (e : Ext rho H rho' H') (h : FrzL K H a vs) : FrzL K H' a vs := by
  rcases h with ⟨o, h⟩ | h
  · exact .inl ⟨o, e.frzs _ _ _ h⟩
  · exact .inr h
def MO.isFrz : MO → Bool
  | .frz _ => true
  | _ => false
/-- cls: the classes' addresses; tb: the tables of code objects, and the names of the codes that stand in them -/
structure Tt where
  cls : List Addr
  tb : List (Addr × Str)
instance : GetElem? Tt Nat Addr fun t i => i < t.cls.length where
  getElem t i h := t.cls[i]
  getElem? t i := t.cls[i]?
/-- an object of the store as it stands at a -/
def RepO (K : PySem.W.Frag) (T : Tt) (rho : List Addr) (H : Hp) (a : Addr) : MO → Prop
  | .lst ds => ∃ vs, H a = some (.lst vs) ∧ Reps K rho H ds vs
  | .frz ds => ∃ vs, FrzL K H a vs ∧ Reps K rho H ds vs
  | .dicK ds => ∃ vs, H a = some (.dK vs) ∧ RepKV K rho H ds vs
  | .dicT ds => ∃ vs, H a = some (.dT vs) ∧ RepKV K rho H ds vs
  | .ins c fs => ∃ C dx vs, T[c]? = some C ∧ H a = some (.ins C dx vs) ∧ RepKV K rho H fs vs
theorem RepO.there {K : PySem.W.Frag} {T : Tt} {rho : List Addr} {H : Hp} {a : Addr} {o : MO} (h : RepO K T rho H a o) (hf : o.isFrz = false) : ∃ u, H a = some u ∧ Mut (some u) := by
  cases o with
  | lst ds => obtain ⟨vs, h1, _⟩ := h; exact ⟨_, h1, trivial⟩
  | frz ds => simp [MO.isFrz] at hf
  | dicK ds => obtain ⟨vs, h1, _⟩ := h; exact ⟨_, h1, trivial⟩
  | dicT ds => obtain ⟨vs, h1, _⟩ := h; exact ⟨_, h1, trivial⟩
  | ins c fs => obtain ⟨C, dx, vs, _, h1, _⟩ := h; exact ⟨_, h1, trivial⟩
theorem RepO.mono {K : PySem.W.Frag} {T : Tt} {rho rho' : List Addr} {H H' : Hp} {a : Addr} {o : MO} (h : RepO K T rho H a o) (e : Ext rho H rho' H') (ha : o.isFrz = false → H' a = H a) : RepO K T rho' H' a o := by
  cases o with
  | lst ds => obtain ⟨vs, h1, h2⟩ := h; exact ⟨vs, (ha rfl).trans h1, Reps.mono e _ _ h2⟩
  | frz ds => obtain ⟨vs, h1, h2⟩ := h; exact ⟨vs, h1.mono e, Reps.mono e _ _ h2⟩
  | dicK ds => obtain ⟨vs, h1, h2⟩ := h; exact ⟨vs, (ha rfl).trans h1, h2.mono e⟩
  | dicT ds => obtain ⟨vs, h1, h2⟩ := h; exact ⟨vs, (ha rfl).trans h1, h2.mono e⟩
  | ins c fs => obtain ⟨C, dx, vs, h0, h1, h2⟩ := h; exact ⟨C, dx, vs, h0, (ha rfl).trans h1, h2.mono e⟩
/-- what stands at an object's place is no table and no code -/
def NoTab (u : HO) : Prop := (∀ ps, u ≠ .tbl ps) ∧ ∀ c q, u ≠ LamX.CodeO c q
theorem obj_not {K : PySem.W.Frag} {T : Tt} {rho : List Addr} {H : Hp} {a : Addr} {o : MO} {u : HO} (h : RepO K T rho H a o) (hf : o.isFrz = false) (hu : H a = some u) : NoTab u := by
  cases o with
  | lst ds => obtain ⟨vs, h1, _⟩ := h; rw [hu] at h1; cases h1; exact ⟨fun _ z => (by cases z), fun _ _ z => (by unfold LamX.CodeO at z; cases z)⟩
  | frz ds => simp [MO.isFrz] at hf
  | dicK ds => obtain ⟨vs, h1, _⟩ := h; rw [hu] at h1; cases h1; exact ⟨fun _ z => (by cases z), fun _ _ z => (by unfold LamX.CodeO at z; cases z)⟩
  | dicT ds => obtain ⟨vs, h1, _⟩ := h; rw [hu] at h1; cases h1; exact ⟨fun _ z => (by cases z), fun _ _ z => (by unfold LamX.CodeO at z; cases z)⟩
  | ins c fs => obtain ⟨C, dx, vs, _, h1, _⟩ := h; rw [hu] at h1; cases h1; exact ⟨fun _ z => (by cases z), fun _ _ z => (by unfold LamX.CodeO at z; cases z)⟩
theorem tabs_write {tb : List (Addr × Str)} {H : Hp} {p : Addr} {u w : HO} (t : LamX.Tabs tb H) (hw : H p = some w) (n : NoTab w) : LamX.Tabs tb (upd H p u) := fun q hq => by
  obtain ⟨ps, h1, h2, h3⟩ := t q hq
  refine ⟨ps, ?_, h2, fun pos cv hc => ?_⟩
  · rw [upd_ne (fun z => by rw [z, hw] at h1; exact n.1 ps (Option.some.inj h1))]; exact h1
  · obtain ⟨c, e1, e2⟩ := h3 pos cv hc
    exact ⟨c, e1, by rw [upd_ne (fun z => by rw [z, hw] at e2; exact n.2 _ _ (Option.some.inj e2))]; exact e2⟩
structure StR (K : PySem.W.Frag) (T : Tt) (rho : List Addr) (H : Hp) (M : Store) : Prop where
  len : rho.length = M.length
  inj : ∀ (i j : Nat) (a : Addr) (o u : MO), rho[i]? = some a → rho[j]? = some a → M[i]? = some o → M[j]? = some u → o.isFrz = false → u.isFrz = false → i = j
  at_ : ∀ (n : Nat) (a : Addr) (o : MO), rho[n]? = some a → M[n]? = some o → RepO K T rho H a o
  tabs : LamX.Tabs T.tb H
section
variable {K : PySem.W.Frag} {T : Tt} {rho : List Addr} {H : Hp} {M : Store}
/-- a new object is laid -/
theorem Ext.laid {p : Addr} {u : HO} (hp : H p = none) : Ext rho H rho (upd H p u) :=
  ⟨List.prefix_refl _, fun b xs h => by rw [upd_ne (ne_of_none h hp)]; exact h, fun b o u h => by rw [upd_ne (ne_of_none h hp)]; exact h⟩
theorem Ext.grow {p : Addr} : Ext rho H (rho ++ [p]) H := ⟨List.prefix_append _ _, fun _ _ h => h, fun _ _ _ h => h⟩
theorem Ext.write {p : Addr} {u : HO} (hp : Mut (H p)) : Ext rho H rho (upd H p u) :=
  ⟨List.prefix_refl _, fun b xs h => by rw [upd_ne (fun z => by subst z; rw [h] at hp; exact hp)]; exact h, fun b o u h => by rw [upd_ne (fun z => by subst z; rw [h] at hp; exact hp)]; exact h⟩
/-- the store as it was, behind something laid that is no object of it (a tuple) -/
theorem StR.laid {p : Addr} {u : HO} (S : StR K T rho H M) (hp : H p = none) : StR K T rho (upd H p u) M :=
  ⟨S.len, S.inj, fun n a o h1 h2 => (S.at_ n a o h1 h2).mono (Ext.laid hp) fun hf => by
    obtain ⟨w, hw, _⟩ := (S.at_ n a o h1 h2).there hf
    rw [upd_ne (ne_of_none hw hp)], S.tabs.ext fun b o e => by rw [upd_ne (ne_of_none e hp)]; exact e⟩
/-- a new object of the store -/
theorem StR.alloc {p : Addr} {u : HO} {m : MO} (S : StR K T rho H M) (hp : H p = none) (hm : RepO K T (rho ++ [p]) (upd H p u) p m) : StR K T (rho ++ [p]) (upd H p u) (M ++ [m]) := by
  have key : ∀ (n : Nat) (a : Addr) (o : MO), rho[n]? = some a → M[n]? = some o → o.isFrz = false → a ≠ p := fun n a o h1 h2 hf => by
    obtain ⟨w, hw, _⟩ := (S.at_ n a o h1 h2).there hf
    exact ne_of_none hw hp
  have sp : ∀ (n : Nat) (a : Addr) (o : MO), (rho ++ [p])[n]? = some a → (M ++ [m])[n]? = some o → (rho[n]? = some a ∧ M[n]? = some o) ∨ (n = M.length ∧ a = p ∧ o = m) := fun n a o h1 h2 => by
    by_cases hn : n < M.length
    · rw [List.getElem?_append_left (by rw [S.len]; exact hn)] at h1
      rw [List.getElem?_append_left hn] at h2
      exact .inl ⟨h1, h2⟩
    · have hn' : n = M.length := by
        have := (List.getElem?_eq_some_iff.mp h2).1
        simp at this; omega
      subst hn'
      rw [← S.len] at h1
      simp at h1 h2
      exact .inr ⟨rfl, h1.symm, h2.symm⟩
  refine ⟨by simp [S.len], fun i j a o u' h1 h2 h3 h4 f1 f2 => ?_, fun n a o h1 h2 => ?_, S.tabs.ext fun b o e => by rw [upd_ne (ne_of_none e hp)]; exact e⟩
  · rcases sp i a o h1 h3 with ⟨a1, a2⟩ | ⟨a1, a2, a3⟩ <;> rcases sp j a u' h2 h4 with ⟨b1, b2⟩ | ⟨b1, b2, b3⟩
    · exact S.inj i j a o u' a1 b1 a2 b2 f1 f2
    · exact absurd b2 (key i a o a1 a2 f1)
    · exact absurd a2 (key j a u' b1 b2 f2)
    · omega
  · rcases sp n a o h1 h2 with ⟨a1, a2⟩ | ⟨a1, a2, a3⟩
    · exact (S.at_ n a o a1 a2).mono ((Ext.laid hp).trans Ext.grow) fun hf => by rw [upd_ne (key n a o a1 a2 hf)]
    · subst a2; subst a3; exact hm
/-- an object is written -/
theorem StR.write {n : Nat} {p : Addr} {u : HO} {m m' : MO} (S : StR K T rho H M) (hn : rho[n]? = some p) (ho : M[n]? = some m) (hf : m.isFrz = false) (hf' : m'.isFrz = false)
    (hm : RepO K T rho (upd H p u) p m') : StR K T rho (upd H p u) (M.set n m') := by
  obtain ⟨w, hw, hmu⟩ := (S.at_ n p m hn ho).there hf
  have E : Ext rho H rho (upd H p u) := Ext.write (by rw [hw]; exact hmu)
  have hl : n < M.length := (List.getElem?_eq_some_iff.mp ho).1
  have sp : ∀ (i : Nat) (o : MO), (M.set n m')[i]? = some o → (i = n ∧ o = m') ∨ (i ≠ n ∧ M[i]? = some o) := fun i o h => by
    by_cases hi : i = n
    · subst hi; rw [List.getElem?_set_self hl] at h; cases h; exact .inl ⟨rfl, rfl⟩
    · rw [List.getElem?_set_ne (Ne.symm hi)] at h; exact .inr ⟨hi, h⟩
  refine ⟨by simp [S.len], fun i j a o o' h1 h2 h3 h4 f1 f2 => ?_, fun i a o h1 h2 => ?_, tabs_write S.tabs hw (obj_not (S.at_ n p m hn ho) hf hw)⟩
  · rcases sp i o h3 with ⟨a1, a2⟩ | ⟨a1, a2⟩ <;> rcases sp j o' h4 with ⟨b1, b2⟩ | ⟨b1, b2⟩
    · omega
    · subst a1; exact S.inj i j a m o' h1 h2 ho b2 hf f2
    · subst b1; exact S.inj i j a o m h1 h2 a2 ho f1 hf
    · exact S.inj i j a o o' h1 h2 a2 b2 f1 f2
  · rcases sp i o h2 with ⟨a1, a2⟩ | ⟨a1, a2⟩
    · subst a1; subst a2; rw [hn] at h1; cases h1; exact hm
    · refine (S.at_ i a o h1 a2).mono E fun f => ?_
      have : a ≠ p := fun z => by subst z; exact a1 (S.inj i n a o m h1 hn a2 ho f hf)
      rw [upd_ne this]
end
/-- the slots -/
structure EnvR (K : PySem.W.Frag) (rho : List Addr) (H : Hp) (eta : Env) (σ : St) : Prop where
  len : eta.length = σ.length
  at_ : ∀ (i : Nat) (d : D), eta[i]? = some (some d) → ∃ v, σ[i]? = some (some v) ∧ Rep K rho H d v
end Ev
namespace Ev
open PySem L2
def Out.bind {α β : Type} (o : Out α) (g : α → Store → Out β) : Out β :=
  match o with
  | .ok a M => g a M
  | .exc x fs M => .exc x fs M
  | .bad => .bad
/-- the written part that a program's evaluation leans on -/
structure Gd where
  K : PySem.W.Frag
  /-- the classes' addresses (own classes) -/
  T : Tt
  /-- the exceptions' classes -/
  XT : List Addr
/-- an exception of class x with fields fs -/
def RepX (G : Gd) (rho : List Addr) (H : Hp) (x : Nat) (fs : List (Str × D)) (cls : Value) (dd : Option Addr) : Prop :=
  ∃ C, G.XT[x]? = some C ∧ cls = .ref C ∧ ((fs = [] ∧ dd = none) ∨ ∃ d vs, dd = some d ∧ H d = some (.xd vs) ∧ RepKV G.K rho H fs vs)
abbrev Kont (α : Type) := List Addr → Hp → α → Store → Prop
def Post (G : Gd) (W : WX) (σ : St) (rho : List Addr) (H : Hp) {α : Type} (Good : Kont α) : Out α → Prop
  | .ok a M => ∀ rho' H', Ext rho H rho' H' → StR G.K G.T rho' H' M → Good rho' H' a M
  | .exc x fs M => ∀ rho' H' cls dd, Ext rho H rho' H' → StR G.K G.T rho' H' M → RepX G rho' H' x fs cls dd → W cls dd σ H'
  | .bad => False
section
variable {G : Gd} {W : WX} {σ : St} {rho rho' : List Addr} {H H' : Hp} {α β : Type}
theorem Post.ext {Good : Kont α} {o : Out α} (h : Post G W σ rho H Good o) (e : Ext rho H rho' H') : Post G W σ rho' H' Good o := by
  cases o with
  | ok a M => exact fun r1 H1 e1 S1 => h r1 H1 (e.trans e1) S1
  | exc x fs M => exact fun r1 H1 c d e1 S1 X1 => h r1 H1 c d (e.trans e1) S1 X1
  | bad => exact h
theorem Post.imp {Good Good' : Kont α} {o : Out α} (h : Post G W σ rho H Good o) (k : ∀ rho' H' a M, Ext rho H rho' H' → StR G.K G.T rho' H' M → Good rho' H' a M → Good' rho' H' a M) : Post G W σ rho H Good' o := by
  cases o with
  | ok a M => exact fun r1 H1 e1 S1 => k r1 H1 a M e1 S1 (h r1 H1 e1 S1)
  | exc x fs M => exact h
  | bad => exact h
theorem Post.bind {Good : Kont β} {o : Out α} {g : α → Store → Out β} (h : Post G W σ rho H Good (o.bind g)) : Post G W σ rho H (fun rho' H' a M => Post G W σ rho' H' Good (g a M)) o := by
  cases o with
  | ok a M => exact fun r1 H1 e1 S1 => Post.ext h e1
  | exc x fs M => exact h
  | bad => exact h
theorem Post.now {Good : Kont α} {a : α} {M : Store} (h : Post G W σ rho H Good (.ok a M)) (S : StR G.K G.T rho H M) : Good rho H a M := h rho H (Ext.refl _ _) S
theorem EnvR.mono {K : PySem.W.Frag} {eta : Env} (E : EnvR K rho H eta σ) (e : Ext rho H rho' H') : EnvR K rho' H' eta σ :=
  ⟨E.len, fun i d h => let ⟨v, h1, h2⟩ := E.at_ i d h; ⟨v, h1, Rep.mono e _ _ h2⟩⟩
end
/-- an expression's evaluation -/
abbrev EvE := Env → Store → Out D
abbrev EvL := Env → Store → Out (List D)
abbrev EvT := Env → Store → Out Bool
def GoodD (K : PySem.W.Frag) (Q : VK) : Kont D := fun rho H d _ => ∀ v, Rep K rho H d v → Q v H
def GoodL (K : PySem.W.Frag) (Q : List V → Hp → Prop) : Kont (List D) := fun rho H ds _ => ∀ vs, Reps K rho H ds vs → Q vs H
def GoodB (Q : Bool → Hp → Prop) : Kont Bool := fun _ H b _ => Q b H
def tE (G : Gd) (W : WX) (f : EvE) : TE := fun σ H Q => ∃ eta M rho, EnvR G.K rho H eta σ ∧ StR G.K G.T rho H M ∧ Post G W σ rho H (GoodD G.K Q) (f eta M)
def tL (G : Gd) (W : WX) (f : EvL) : TA := fun σ H Q => ∃ eta M rho, EnvR G.K rho H eta σ ∧ StR G.K G.T rho H M ∧ Post G W σ rho H (GoodL G.K Q) (f eta M)
def tT (G : Gd) (W : WX) (f : EvT) : TT := fun σ H Q => ∃ eta M rho, EnvR G.K rho H eta σ ∧ StR G.K G.T rho H M ∧ Post G W σ rho H (GoodB Q) (f eta M)
def PEv (G : Gd) (X : Cx) (W : WX) (f : EvE) (e : Expr) : Prop := PE X e (tE G W f)
def PLv (G : Gd) (X : Cx) (W : WX) (f : EvL) (es : List Expr) : Prop := PA X es (tL G W f)
def PTv (G : Gd) (X : Cx) (W : WX) (f : EvT) (e : Expr) : Prop := PT X e (tT G W f)
def PWv (G : Gd) (X : Cx) (W : WX) (f : EvT) (e : Expr) : Prop := PW X e (tT G W f)
theorem PE.weak {X : Cx} {e : Expr} {t t' : TE} (h : PE X e t) (k : ∀ σ H Q, t' σ H Q → t σ H Q) : PE X e t' := ⟨fun pins s σ H Q I q => h.run pins s σ H Q I (k σ H Q q)⟩
theorem PT.weak {X : Cx} {e : Expr} {t t' : TT} (h : PT X e t) (k : ∀ σ H Q, t' σ H Q → t σ H Q) : PT X e t' := ⟨fun pins s σ H Q I q => h.run pins s σ H Q I (k σ H Q q)⟩
theorem PW.weak {X : Cx} {e : Expr} {t t' : TT} (h : PW X e t) (k : ∀ σ H Q, t' σ H Q → t σ H Q) : PW X e t' := ⟨fun wh pins s σ H Q I q => h.run wh pins s σ H Q I (k σ H Q q)⟩
theorem PA.weak {X : Cx} {e : List Expr} {t t' : TA} (h : PA X e t) (k : ∀ σ H Q, t' σ H Q → t σ H Q) : PA X e t' := ⟨fun pos pins s σ H Q I q => h.run pos pins s σ H Q I (k σ H Q q)⟩
theorem PS.weak {X : Cx} {e : Stmt} {t t' : TS} (h : PS X e t) (k : ∀ D σ H, t' D σ H → t D σ H) : PS X e t' := ⟨fun pins s σ H D I q => h.run pins s σ H D I (k D σ H q)⟩
theorem PSs.weak {X : Cx} {e : List Stmt} {t t' : TS} (h : PSs X e t) (k : ∀ D σ H, t' D σ H → t D σ H) : PSs X e t' := ⟨fun pins s σ H D I q => h.run pins s σ H D I (k D σ H q)⟩
def eVar (i : Nat) : EvE := fun eta M => match eta[i]? with
  | some (some d) => .ok d M
  | _ => .bad
def eC (d : D) : EvE := fun _ M => .ok d M
section
variable {G : Gd} {X : Cx} {W : WX}
theorem ev_var {i : Nat} {x : Str} {pos : Pos} (hN : X.N[i]? = some x := by rfl) (hv : Vis X.env.scope x := by first | exact Or.inl rfl | exact Or.inr (Or.inl rfl) | exact Or.inr (Or.inr rfl))
    (hd : (x == ("__debug__" : Str)) = false := by decide) (hcd : (x == ("__classdict__" : Str)) = false := by decide) : PEv G X W (eVar i) (.Name x pos) :=
  PE.weak (pe_var hN hv hd hcd) fun σ H Q ⟨eta, M, rho, E, S, P⟩ => by
    unfold eVar at P
    cases e : eta[i]? with
    | none => rw [e] at P; exact P.elim
    | some o =>
      cases o with
      | none => rw [e] at P; exact P.elim
      | some d =>
        rw [e] at P
        obtain ⟨v, h1, h2⟩ := E.at_ i d e
        exact ⟨v, h1, P.now S v h2⟩
theorem ev_const {e : Expr} {d : D} {v : V} (h : PE X e (tC v)) (r : ∀ rho H, Rep G.K rho H d v) : PEv G X W (eC d) e :=
  PE.weak h fun σ H Q ⟨eta, M, rho, E, S, P⟩ => P.now S v (r rho H)
theorem ev_int {i : Int} {j pos} : PEv G X W (eC (.int i)) (.Constant (.int i) j pos) := ev_const pe_int fun _ _ => by simp [Rep]
theorem ev_bl {b : Bool} {j pos} : PEv G X W (eC (.bl b)) (.Constant (.bool b) j pos) := ev_const pe_bl fun _ _ => by simp [Rep]
theorem ev_non {j pos} : PEv G X W (eC .non) (.Constant .none j pos) := ev_const pe_non fun _ _ => by simp [Rep]
theorem ev_str {x : Str} {j pos} : PEv G X W (eC (.str x)) (.Constant (.str x) j pos) := ev_const pe_str fun _ _ => by simp [Rep]
/-- a global that is known -/
theorem ev_glob {x : Str} {u : Value} {d : D} {v : V} {pos : Pos} (hg : Gl X x) (hm : X.mg x = some u) (r : RelV v u) (hr : ∀ rho H, Rep G.K rho H d v) (hd : (x == ("__debug__" : Str)) = false := by decide) : PEv G X W (eC d) (.Name x pos) :=
  ev_const (pe_glob hg hm r hd) hr
theorem ev_ty {x : Str} {n : String} {pos : Pos} (hg : Gl X x) (hm : X.mg x = none) (hv : bootBuiltins x = some (.type n)) (hn : x ≠ "__name__" := by decide) (hd : (x == ("__debug__" : Str)) = false := by decide) : PEv G X W (eC (.cst (.ty n))) (.Name x pos) :=
  ev_const (v := .ty n) (pe_bltn hg hm hv (by rfl) hn hd) fun _ _ => by simp [Rep]
end
def eBin (f : D → D → Store → Out D) (a b : EvE) : EvE := fun eta M => (a eta M).bind fun x M1 => (b eta M1).bind fun y M2 => f x y M2
def eUn (f : D → Store → Out D) (a : EvE) : EvE := fun eta M => (a eta M).bind fun x M1 => f x M1
/-- an operation on values is what the hand layer's reading asks -/
def OpS (G : Gd) (f : D → D → Store → Out D) (r : R2) : Prop :=
  ∀ (W : WX) (σ : St) (rho : List Addr) (H : Hp) (M : Store) (x y : D) (v w : V) (Q : VK), StR G.K G.T rho H M → Rep G.K rho H x v → Rep G.K rho H y w → Post G W σ rho H (GoodD G.K Q) (f x y M) → r v w H Q
def UnS (G : Gd) (f : D → Store → Out D) (r : V → Hp → VK → Prop) : Prop :=
  ∀ (W : WX) (σ : St) (rho : List Addr) (H : Hp) (M : Store) (x : D) (v : V) (Q : VK), StR G.K G.T rho H M → Rep G.K rho H x v → Post G W σ rho H (GoodD G.K Q) (f x M) → r v H Q
section
variable {G : Gd} {X : Cx} {W : WX}
/-- the reading of two in a row, whatever comes behind -/
theorem tE2 {fa fb : EvE} {α : Type} {g : D → D → Store → Out α} {σ : St} {H : Hp} {rho : List Addr} {eta : Env} {M : Store} {Good : Kont α} (E : EnvR G.K rho H eta σ) (S : StR G.K G.T rho H M)
    (P : Post G W σ rho H Good ((fa eta M).bind fun x M1 => (fb eta M1).bind fun y M2 => g x y M2)) {R : V → V → Hp → Prop}
    (k : ∀ rho2 H2 M2 x y v w, EnvR G.K rho2 H2 eta σ → StR G.K G.T rho2 H2 M2 → Rep G.K rho2 H2 x v → Rep G.K rho2 H2 y w → Post G W σ rho2 H2 Good (g x y M2) → R v w H2) :
    tE G W fa σ H fun v H1 => tE G W fb σ H1 fun w H2 => R v w H2 :=
  ⟨eta, M, rho, E, S, P.bind.imp fun r1 H1 x M1 e1 S1 P1 v rv => ⟨eta, M1, r1, E.mono e1, S1, P1.bind.imp fun r2 H2 y M2 e2 S2 P2 w rw' => k r2 H2 M2 x y v w ((E.mono e1).mono e2) S2 (Rep.mono e2 _ _ rv) rw' P2⟩⟩
theorem ev_bin {op : Operator} {f : D → D → Store → Out D} {r : R2} {fa fb : EvE} {a b : Expr} {pos : Pos} (ho : OpR X (binaryOp op) r) (hs : OpS G f r) (ha : PEv G X W fa a) (hb : PEv G X W fb b) : PEv G X W (eBin f fa fb) (.BinOp a op b pos) :=
  PE.weak (pe_op ho ha hb) fun σ H Q ⟨eta, M, rho, E, S, P⟩ => tE2 E S P fun r2 H2 M2 x y v w _ S2 rx ry P2 => hs W σ r2 H2 M2 x y v w Q S2 rx ry P2
theorem ev_un {op : UnaryOp} {f : D → Store → Out D} {r : V → Hp → VK → Prop} {fa : EvE} {a : Expr} {pos : Pos} (ho : UnR X (unaryOp op) r) (hs : UnS G f r) (ha : PEv G X W fa a) : PEv G X W (eUn f fa) (.UnaryOp op a pos) :=
  PE.weak (pe_un ho ha) fun σ H Q ⟨eta, M, rho, E, S, P⟩ => ⟨eta, M, rho, E, S, P.bind.imp fun r1 H1 x M1 e1 S1 P1 v rv => hs W σ r1 H1 M1 x v Q S1 rv P1⟩
theorem ev_cmp {op : CmpOp} {f : D → D → Store → Out D} {r : R2} {fa fb : EvE} {a b : Expr} {pos : Pos} (ho : OpR X (compareOp op) r) (hs : OpS G f r) (ha : PEv G X W fa a) (hb : PEv G X W fb b)
    (hm : behindInMarks op b = false := by rfl) : PEv G X W (eBin f fa fb) (.Compare a [op] [b] pos) :=
  PE.weak (pe_cmpR ho ha hb hm) fun σ H Q ⟨eta, M, rho, E, S, P⟩ => tE2 E S P fun r2 H2 M2 x y v w _ S2 rx ry P2 => hs W σ r2 H2 M2 x y v w Q S2 rx ry P2
end
/-- a bool value as a test -/
def asB (x : D) (M : Store) : Out Bool := match x with
  | .bl b => .ok b M
  | _ => .bad
def tOf (f : EvE) : EvT := fun eta M => (f eta M).bind asB
/-- a value's truth -/
def truthD (x : D) (M : Store) : Out Bool := match x with
  | .non => .ok false M
  | .bl b => .ok b M
  | .int i => .ok (i != 0) M
  | .str z => if z.length ≤ cap then .ok ((z.length : Int) != 0) M else .bad
  | .tup ds => .ok (!ds.isEmpty) M
  | .ref n => (match M[n]? with
    | some (.lst ds) => .ok (!ds.isEmpty) M
    | some (.frz ds) => .ok (!ds.isEmpty) M
    | some (.dicK ds) => .ok (!ds.isEmpty) M
    | _ => .bad)
  | .cst _ => .bad
  | .ktp _ => .bad
def tTru (f : EvE) : EvT := fun eta M => (f eta M).bind truthD
def tNt (f : EvT) : EvT := fun eta M => (f eta M).bind fun b M1 => .ok (!b) M1
def tAn (f g : EvT) : EvT := fun eta M => (f eta M).bind fun b M1 => if b = true then g eta M1 else .ok false M1
def tOrr (f g : EvT) : EvT := fun eta M => (f eta M).bind fun b M1 => if b = true then .ok true M1 else g eta M1
section
variable {G : Gd} {X : Cx} {W : WX}
theorem isEmpty_reps {rho : List Addr} {H : Hp} {ds : List D} {vs : List V} (h : Reps G.K rho H ds vs) : vs.isEmpty = ds.isEmpty := by
  cases ds with
  | nil => simp only [Reps] at h; subst h; rfl
  | cons d ds => simp only [Reps] at h; obtain ⟨v, ws, rfl, _⟩ := h; rfl
theorem isEmpty_kv {κ : Type} {rho : List Addr} {H : Hp} {ds : List (κ × D)} {vs : List (κ × V)} (h : RepKV G.K rho H ds vs) : vs.isEmpty = ds.isEmpty := by
  have := h.2.length
  simp at this
  cases ds <;> cases vs <;> simp_all
theorem truthD_ok (hK : X.K = G.K) {σ : St} {rho : List Addr} {H : Hp} {M : Store} {x : D} {v : V} {Q : Bool → Hp → Prop} (S : StR G.K G.T rho H M) (r : Rep G.K rho H x v) (P : Post G W σ rho H (GoodB Q) (truthD x M)) :
    ∃ k, TruV X.K v H k ∧ Q k H := by
  rw [hK]
  cases x with
  | non => simp only [Rep] at r; subst r; exact ⟨false, rfl, P.now S⟩
  | bl b => simp only [Rep] at r; subst r; exact ⟨b, rfl, P.now S⟩
  | int i => simp only [Rep] at r; subst r; exact ⟨_, rfl, P.now S⟩
  | str z =>
    simp only [Rep] at r; subst r
    simp only [truthD] at P
    split at P
    · rename_i h; exact ⟨_, ⟨by rw [← cap_eq]; exact h, rfl⟩, P.now S⟩
    · exact P.elim
  | tup ds =>
    simp only [Rep] at r
    obtain ⟨a, vs, rfl, h1, h2⟩ := r
    exact ⟨_, .inr (.inl ⟨vs, SqT.of h1, rfl⟩), by rw [isEmpty_reps h2]; exact P.now S⟩
  | cst u => exact P.elim
  | ktp u => exact P.elim
  | ref n =>
    simp only [Rep] at r
    obtain ⟨a, rfl, h1⟩ := r
    simp only [truthD] at P
    cases e : M[n]? with
    | none => rw [e] at P; exact P.elim
    | some o =>
      rw [e] at P
      have ro := S.at_ n a o h1 e
      cases o with
      | lst ds => obtain ⟨vs, g1, g2⟩ := ro; exact ⟨_, .inl ⟨vs, SqL.of g1, rfl⟩, by rw [isEmpty_reps g2]; exact P.now S⟩
      | frz ds => obtain ⟨vs, g1, g2⟩ := ro; exact ⟨_, .inl ⟨vs, g1.sq, rfl⟩, by rw [isEmpty_reps g2]; exact P.now S⟩
      | dicK ds => obtain ⟨vs, g1, g2⟩ := ro; exact ⟨_, .inr (.inr ⟨vs, g1, rfl⟩), by rw [isEmpty_kv g2]; exact P.now S⟩
      | dicT ds => exact P.elim
      | ins c fs => exact P.elim
theorem tv_cmp {op : CmpOp} {f : D → D → Store → Out D} {r : R2} {fa fb : EvE} {a b : Expr} {pos : Pos} (ho : OpR X (compareOp op) r) (hs : OpS G f r) (ha : PEv G X W fa a) (hb : PEv G X W fb b)
    (hm : behindInMarks op b = false := by rfl) : PTv G X W (tOf (eBin f fa fb)) (.Compare a [op] [b] pos) :=
  PT.weak (pt_cmpR ho ha hb hm) fun σ H Q ⟨eta, M, rho, E, S, P⟩ => by
    have P' : Post G W σ rho H (GoodB Q) ((fa eta M).bind fun x M1 => (fb eta M1).bind fun y M2 => (f x y M2).bind asB) := by
      have e : (tOf (eBin f fa fb) eta M) = ((fa eta M).bind fun x M1 => (fb eta M1).bind fun y M2 => (f x y M2).bind asB) := by
        unfold tOf eBin
        cases fa eta M <;> simp only [Out.bind]
        rename_i x M1
        cases fb eta M1 <;> simp only [Out.bind]
      rw [e] at P; exact P
    refine tE2 E S P' fun r2 H2 M2 x y v w _ S2 rx ry P2 => hs W σ r2 H2 M2 x y v w _ S2 rx ry ?_
    refine P2.bind.imp fun r3 H3 z M3 e3 S3 P3 u ru => ?_
    cases z with
    | bl b => simp only [Rep] at ru; subst ru; exact ⟨b, rfl, P3.now S3⟩
    | _ => exact P3.elim
/-- any expression whose test is its value's truth -/
theorem tv_val (hK : X.K = G.K) {f : EvE} {e : Expr} (h : PEv G X W f e) (he : ∀ whole, isTrue e X.env whole = (do let v ← whole; standAt e.pos; holding [v] (truthy v)) := by intro _; rfl) : PTv G X W (tTru f) e :=
  PT.weak (pt_truth h he) fun σ H Q ⟨eta, M, rho, E, S, P⟩ => ⟨eta, M, rho, E, S, P.bind.imp fun r1 H1 x M1 e1 S1 P1 v rv => truthD_ok hK S1 rv P1⟩
theorem tv_not {f : EvT} {e : Expr} {pos : Pos} (h : PTv G X W f e) : PTv G X W (tNt f) (.UnaryOp .Not e pos) :=
  PT.weak (pt_not h) fun σ H Q ⟨eta, M, rho, E, S, P⟩ => ⟨eta, M, rho, E, S, P.bind.imp fun r1 H1 b M1 e1 S1 P1 => P1.now S1⟩
theorem wv_and1 {f : EvT} {e : Expr} {pos : Pos} (h : PTv G X W f e) : PWv G X W f (.BoolOp .And [e] pos) := pw_and1 h
theorem wv_or1 {f : EvT} {e : Expr} {pos : Pos} (h : PTv G X W f e) : PWv G X W f (.BoolOp .Or [e] pos) := pw_or1 h
theorem wv_and {f g : EvT} {a b : Expr} {rest : List Expr} {pos : Pos} (ha : PTv G X W f a) (hb : PWv G X W g (.BoolOp .And (b :: rest) pos)) : PWv G X W (tAn f g) (.BoolOp .And (a :: b :: rest) pos) :=
  PW.weak (pw_and ha hb) fun σ H Q ⟨eta, M, rho, E, S, P⟩ => ⟨eta, M, rho, E, S, P.bind.imp fun r1 H1 c M1 e1 S1 P1 => by
    cases c with
    | true => exact ⟨eta, M1, r1, E.mono e1, S1, P1⟩
    | false => exact P1.now S1⟩
theorem wv_or {f g : EvT} {a b : Expr} {rest : List Expr} {pos : Pos} (ha : PTv G X W f a) (hb : PWv G X W g (.BoolOp .Or (b :: rest) pos)) : PWv G X W (tOrr f g) (.BoolOp .Or (a :: b :: rest) pos) :=
  PW.weak (pw_or ha hb) fun σ H Q ⟨eta, M, rho, E, S, P⟩ => ⟨eta, M, rho, E, S, P.bind.imp fun r1 H1 c M1 e1 S1 P1 => by
    cases c with
    | true => exact P1.now S1
    | false => exact ⟨eta, M1, r1, E.mono e1, S1, P1⟩⟩
theorem tv_bool {f : EvT} {e : Expr} (h : PWv G X W f e) : PTv G X W f e := PW.pt h
end
def eNt (f : EvE) : EvE := fun eta M => (f eta M).bind fun x M1 => (truthD x M1).bind fun b M2 => .ok (.bl (!b)) M2
def eAn (f g : EvE) : EvE := fun eta M => (f eta M).bind fun x M1 => (truthD x M1).bind fun b M2 => if b = true then g eta M2 else .ok x M2
def eOrr (f g : EvE) : EvE := fun eta M => (f eta M).bind fun x M1 => (truthD x M1).bind fun b M2 => if b = true then .ok x M2 else g eta M2
def eIf (c : EvT) (f g : EvE) : EvE := fun eta M => (c eta M).bind fun b M1 => if b = true then f eta M1 else g eta M1
section
variable {G : Gd} {X : Cx} {W : WX}
theorem ev_if {c : EvT} {f g : EvE} {ec ea eb : Expr} {pos : Pos} (hc : PTv G X W c ec) (ha : PEv G X W f ea) (hb : PEv G X W g eb) : PEv G X W (eIf c f g) (.IfExp ec ea eb pos) :=
  PE.weak (pe_ifExp hc ha hb) fun σ H Q ⟨eta, M, rho, E, S, P⟩ => ⟨eta, M, rho, E, S, P.bind.imp fun r1 H1 b M1 e1 S1 P1 => by
    cases b with
    | true => exact ⟨eta, M1, r1, E.mono e1, S1, P1⟩
    | false => exact ⟨eta, M1, r1, E.mono e1, S1, P1⟩⟩
end
end Ev
namespace Ev
open PySem L2
mutual
def pyD : D → Option PyData
  | .non => some .none
  | .bl b => some (.bool b)
  | .int i => some (.int i)
  | .str x => some (.str x)
  | .tup ds => (pyDs ds).map .tuple
  | .ref _ => none
  | .cst _ => none
  | .ktp ds => (pyDs ds).map .tuple
def pyDs : List D → Option (List PyData)
  | [] => some []
  | d :: ds => match pyD d, pyDs ds with
    | some p, some ps => some (p :: ps)
    | _, _ => none
end
/-- every member by f -/
def allBy (f : D → Option PyData) : List D → Option (List PyData)
  | [] => some []
  | d :: ds => match f d, allBy f ds with
    | some p, some ps => some (p :: ps)
    | _, _ => none
def toPy (M : Store) : Nat → D → Option PyData
  | 0, d => pyD d
  | n + 1, d => match pyD d with
    | some p => some p
    | none => match d with
      | .ref i => (match M[i]? with
        | some (.lst ds) => (allBy (toPy M n) ds).map .list
        | some (.frz ds) => (allBy (toPy M n) ds).map .list
        | _ => none)
      | .tup ds => (allBy (toPy M n) ds).map .tuple
      | _ => none
section
variable {K : PySem.W.Frag} {T : Tt} {rho : List Addr} {H : Hp} {M : Store}
mutual
theorem pyD_dp : ∀ (d : D) (p : PyData) (v : V), pyD d = some p → Rep K rho H d v → Dp K H v p
  | .non, p, v, h, r => by simp only [pyD, Option.some.injEq] at h; simp only [Rep] at r; subst h r; exact .non
  | .bl b, p, v, h, r => by simp only [pyD, Option.some.injEq] at h; simp only [Rep] at r; subst h r; exact .bl b
  | .int i, p, v, h, r => by simp only [pyD, Option.some.injEq] at h; simp only [Rep] at r; subst h r; exact .int i
  | .str x, p, v, h, r => by simp only [pyD, Option.some.injEq] at h; simp only [Rep] at r; subst h r; exact .str x
  | .ref _, p, v, h, _ => by simp [pyD] at h
  | .cst _, p, v, h, _ => by simp [pyD] at h
  | .tup ds, p, v, h, r => by
    simp only [pyD, Option.map_eq_some_iff] at h
    obtain ⟨ps, h1, rfl⟩ := h
    simp only [Rep] at r
    obtain ⟨a, vs, rfl, h2, h3⟩ := r
    exact .tup (SqT.of h2) (pyDs_dp ds ps vs h1 h3)
  | .ktp ds, p, v, h, r => by
    simp only [pyD, Option.map_eq_some_iff] at h
    obtain ⟨ps, h1, rfl⟩ := h
    simp only [Rep] at r
    obtain ⟨a, vs, rfl, h2, h3⟩ := r
    exact .tup h2 (pyDs_dp ds ps vs h1 h3)
theorem pyDs_dp : ∀ (ds : List D) (ps : List PyData) (vs : List V), pyDs ds = some ps → Reps K rho H ds vs → DpAll K H vs ps
  | [], ps, vs, h, r => by simp only [pyDs, Option.some.injEq] at h; simp only [Reps] at r; subst h r; exact .nil
  | d :: ds, ps, vs, h, r => by
    simp only [Reps] at r
    obtain ⟨v, ws, rfl, r1, r2⟩ := r
    simp only [pyDs] at h
    split at h
    · rename_i p qs h1 h2
      simp only [Option.some.injEq] at h
      subst h
      exact .cons (pyD_dp d p v h1 r1) (pyDs_dp ds qs ws h2 r2)
    · cases h
end
theorem allBy_dp {f : D → Option PyData} (hf : ∀ d p v, f d = some p → Rep K rho H d v → Dp K H v p) : ∀ (ds : List D) (ps : List PyData) (vs : List V), allBy f ds = some ps → Reps K rho H ds vs → DpAll K H vs ps
  | [], ps, vs, h, r => by simp only [allBy, Option.some.injEq] at h; simp only [Reps] at r; subst h r; exact .nil
  | d :: ds, ps, vs, h, r => by
    simp only [Reps] at r
    obtain ⟨v, ws, rfl, r1, r2⟩ := r
    simp only [allBy] at h
    split at h
    · rename_i p qs h1 h2
      simp only [Option.some.injEq] at h
      subst h
      exact .cons (hf d p v h1 r1) (allBy_dp hf ds qs ws h2 r2)
    · cases h
theorem toPy_dp (S : StR K T rho H M) : ∀ (n : Nat) (d : D) (p : PyData) (v : V), toPy M n d = some p → Rep K rho H d v → Dp K H v p
  | 0, d, p, v, h, r => pyD_dp d p v (by simpa only [toPy] using h) r
  | n + 1, d, p, v, h, r => by
    simp only [toPy] at h
    split at h
    · rename_i q hq
      simp only [Option.some.injEq] at h
      subst h
      exact pyD_dp d q v hq r
    · split at h
      · rename_i i
        simp only [Rep] at r
        obtain ⟨a, rfl, ha⟩ := r
        split at h
        · rename_i ds hm
          obtain ⟨vs, g1, g2⟩ := S.at_ _ a _ ha hm
          simp only [Option.map_eq_some_iff] at h
          obtain ⟨ps, h1, rfl⟩ := h
          exact .lst (SqL.of g1) (allBy_dp (toPy_dp S n) ds ps vs h1 g2)
        · rename_i ds hm
          obtain ⟨vs, g1, g2⟩ := S.at_ _ a _ ha hm
          simp only [Option.map_eq_some_iff] at h
          obtain ⟨ps, h1, rfl⟩ := h
          exact .lst g1.sq (allBy_dp (toPy_dp S n) ds ps vs h1 g2)
        · cases h
      · rename_i ds _
        simp only [Rep] at r
        obtain ⟨a, vs, rfl, h2, h3⟩ := r
        simp only [Option.map_eq_some_iff] at h
        obtain ⟨ps, h1, rfl⟩ := h
        exact .tup (SqT.of h2) (allBy_dp (toPy_dp S n) ds ps vs h1 h3)
      · cases h
end
def mulOk (i j : Int) : Bool := decide (-(2 ^ 64) < i ∧ i < 2 ^ 64) || decide (-(2 ^ 64) < j ∧ j < 2 ^ 64) || decide (i.natAbs.log2 + j.natAbs.log2 < 1000000)
def dAdd (x y : D) (M : Store) : Out D := match x, y with
  | .int i, .int j => .ok (.int (i + j)) M
  | .str a, .str b => if a.length + b.length ≤ cap then .ok (.str (a ++ b)) M else .bad
  | .tup as, .tup bs => if as.length + bs.length ≤ cap then .ok (.tup (as ++ bs)) M else .bad
  | .ref m, .ref n => (match M[m]?, M[n]? with
    | some (.lst as), some (.lst bs) => if as.length + bs.length ≤ cap then .ok (.ref M.length) (M ++ [.lst (as ++ bs)]) else .bad
    | _, _ => .bad)
  | _, _ => .bad
def dSub (x y : D) (M : Store) : Out D := match x, y with
  | .int i, .int j => .ok (.int (i - j)) M
  | _, _ => .bad
def dMul (x y : D) (M : Store) : Out D := match x, y with
  | .int i, .int j => if mulOk i j = true then .ok (.int (i * j)) M else .bad
  | .ref n, .int k => (match M[n]? with
    | some (.lst as) => if -(2 ^ 63) ≤ k ∧ k < 2 ^ 63 ∧ as.length * k.toNat ≤ cap then .ok (.ref M.length) (M ++ [.lst (List.replicate k.toNat as).flatten]) else .bad
    | _ => .bad)
  | .tup as, .int k => if as ≠ [] ∧ 2 ≤ k ∧ k ≤ 1000 ∧ as.length ≤ 1000 then .ok (.tup (List.replicate k.toNat as).flatten) M else .bad
  | _, _ => .bad
def dFdiv (x y : D) (M : Store) : Out D := match x, y with
  | .int i, .int j => if 0 < j ∧ j.natAbs.log2 < 9000 then .ok (.int (i / j)) M else .bad
  | _, _ => .bad
def dMod (x y : D) (M : Store) : Out D := match x, y with
  | .int i, .int j => if 0 < j then .ok (.int (i % j)) M else .bad
  | _, _ => .bad
def dPow (x y : D) (M : Store) : Out D := match x, y with
  | .int i, .int j => if 0 ≤ j ∧ j ≤ 1000000 ∧ i.natAbs < 2 ^ 64 then .ok (.int (i ^ j.toNat)) M else .bad
  | _, _ => .bad
def dNeg (x : D) (M : Store) : Out D := match x with
  | .int i => .ok (.int (-i)) M
  | _ => .bad
section
variable {G : Gd} {X : Cx} {W : WX}
/-- a new list -/
theorem new_lst {σ : St} {rho : List Addr} {H : Hp} {M : Store} {Q : VK} {ds : List D} {vs : List V} (S : StR G.K G.T rho H M) (r : Reps G.K rho H ds vs)
    (P : Post G W σ rho H (GoodD G.K Q) (.ok (.ref M.length) (M ++ [.lst ds]))) : ∀ p, H p = none → Q (.ref p) (upd H p (.lst vs)) := fun p hp => by
  have E : Ext rho H (rho ++ [p]) (upd H p (.lst vs)) := (Ext.laid hp).trans Ext.grow
  refine P (rho ++ [p]) _ E (S.alloc hp ⟨vs, upd_same, Reps.mono E _ _ r⟩) (.ref p) ?_
  simp only [Rep]
  exact ⟨p, rfl, by rw [← S.len, List.getElem?_append_right (Nat.le_refl _)]; simp⟩
/-- a new tuple -/
theorem new_tup {σ : St} {rho : List Addr} {H : Hp} {M : Store} {Q : VK} {ds : List D} {vs : List V} (S : StR G.K G.T rho H M) (r : Reps G.K rho H ds vs)
    (P : Post G W σ rho H (GoodD G.K Q) (.ok (.tup ds) M)) : ∀ p, H p = none → Q (.ref p) (upd H p (.tup vs)) := fun p hp => by
  have E : Ext rho H rho (upd H p (.tup vs)) := Ext.laid hp
  refine P rho _ E (S.laid hp) (.ref p) ?_
  simp only [Rep]
  exact ⟨p, vs, rfl, upd_same, Reps.mono E _ _ r⟩
theorem rep_ref {K : PySem.W.Frag} {rho : List Addr} {H : Hp} {n : Nat} {v : V} (r : Rep K rho H (.ref n) v) : ∃ a, v = .ref a ∧ rho[n]? = some a := by simpa only [Rep] using r
theorem rep_tup {K : PySem.W.Frag} {rho : List Addr} {H : Hp} {ds : List D} {v : V} (r : Rep K rho H (.tup ds) v) : ∃ a vs, v = .ref a ∧ H a = some (.tup vs) ∧ Reps K rho H ds vs := by simpa only [Rep] using r
theorem rep_int {K : PySem.W.Frag} {rho : List Addr} {H : Hp} {i : Int} {v : V} (r : Rep K rho H (.int i) v) : v = .int i := by simpa only [Rep] using r
theorem rep_str {K : PySem.W.Frag} {rho : List Addr} {H : Hp} {i : Str} {v : V} (r : Rep K rho H (.str i) v) : v = .str i := by simpa only [Rep] using r
theorem rep_bl {K : PySem.W.Frag} {rho : List Addr} {H : Hp} {i : Bool} {v : V} (r : Rep K rho H (.bl i) v) : v = .bl i := by simpa only [Rep] using r
theorem rep_non {K : PySem.W.Frag} {rho : List Addr} {H : Hp} {v : V} (r : Rep K rho H .non v) : v = .non := by simpa only [Rep] using r
theorem rep_cst {K : PySem.W.Frag} {rho : List Addr} {H : Hp} {u v : V} (r : Rep K rho H (.cst u) v) : v = u := by simpa only [Rep] using r
theorem good_int {σ : St} {rho : List Addr} {H : Hp} {M : Store} {Q : VK} {i : Int} (S : StR G.K G.T rho H M) (P : Post G W σ rho H (GoodD G.K Q) (.ok (.int i) M)) : Q (.int i) H := P.now S _ (by simp [Rep])
theorem good_bl {σ : St} {rho : List Addr} {H : Hp} {M : Store} {Q : VK} {i : Bool} (S : StR G.K G.T rho H M) (P : Post G W σ rho H (GoodD G.K Q) (.ok (.bl i) M)) : Q (.bl i) H := P.now S _ (by simp [Rep])
theorem good_str {σ : St} {rho : List Addr} {H : Hp} {M : Store} {Q : VK} {i : Str} (S : StR G.K G.T rho H M) (P : Post G W σ rho H (GoodD G.K Q) (.ok (.str i) M)) : Q (.str i) H := P.now S _ (by simp [Rep])
def rAddV (K : PySem.W.Frag) : R2 := fun x y H Q => (rI0 (fun i j => .int (i + j)) x y H Q ∨ (∃ i j, x = .str i ∧ y = .str j ∧ i.length + j.length ≤ sizeLine ∧ Q (.str (i ++ j)) H)) ∨ (rCatA K x y H Q ∨ rCat x y H Q)
theorem op_addV : OpR X (binaryOp .Add) (rAddV X.K) := (op_add.or op_add_str).or (op_catA.or op_cat)
theorem ds_add (hK : X.K = G.K) : OpS G dAdd (rAddV X.K) := by
  rw [hK]
  intro W σ rho H M x y v w Q S rx ry P
  cases x <;> cases y <;> try exact P.elim
  · cases rep_int rx; cases rep_int ry
    exact .inl (.inl ⟨_, _, rfl, rfl, good_int S P⟩)
  · cases rep_str rx; cases rep_str ry
    simp only [dAdd] at P
    split at P
    · rename_i h; exact .inl (.inr ⟨_, _, rfl, rfl, by rw [← cap_eq]; exact h, good_str S P⟩)
    · exact P.elim
  · obtain ⟨a, vs, rfl, h1, h2⟩ := rep_tup rx
    obtain ⟨b, ws, rfl, h3, h4⟩ := rep_tup ry
    simp only [dAdd] at P
    split at P
    · rename_i h
      refine .inr (.inl ⟨a, b, vs, ws, rfl, rfl, SqT.of h1, SqT.of h3, by rw [h2.length, h4.length, ← cap_eq]; exact h, fun e => ?_, fun _ e => ?_, fun _ _ => ?_⟩)
      · subst e
        have := h2.length; simp at this
        have e2 := List.eq_nil_of_length_eq_zero this.symm
        subst e2
        refine P.now S _ ?_
        simp only [Rep]; exact ⟨b, ws, rfl, h3, h4⟩
      · subst e
        have := h4.length; simp at this
        have e2 := List.eq_nil_of_length_eq_zero this.symm
        subst e2
        refine P.now S _ ?_
        simp only [Rep, List.append_nil]; exact ⟨a, vs, rfl, h1, h2⟩
      · exact new_tup S (h2.append h4) P
    · exact P.elim
  · obtain ⟨a, rfl, ha⟩ := rep_ref rx
    obtain ⟨b, rfl, hb⟩ := rep_ref ry
    simp only [dAdd] at P
    split at P
    · rename_i as bs e1 e2
      split at P
      · rename_i h
        obtain ⟨vs, g1, g2⟩ := S.at_ _ a _ ha e1
        obtain ⟨ws, g3, g4⟩ := S.at_ _ b _ hb e2
        exact .inr (.inr ⟨a, b, vs, ws, rfl, rfl, g1, g3, by rw [g2.length, g4.length, ← cap_eq]; exact h, new_lst S (g2.append g4) P⟩)
      · exact P.elim
    · exact P.elim
def rSubV : R2 := rI0 fun i j => .int (i - j)
theorem ds_sub : OpS G dSub rSubV := by
  intro W σ rho H M x y v w Q S rx ry P
  cases x <;> cases y <;> try exact P.elim
  cases rep_int rx; cases rep_int ry
  exact ⟨_, _, rfl, rfl, good_int S P⟩
def rMulV (K : PySem.W.Frag) : R2 := fun x y H Q => (rI CMul (fun i j => .int (i * j)) x y H Q ∨ rI CMulW (fun i j => .int (i * j)) x y H Q) ∨ (rRep x y H Q ∨ rRepT K x y H Q)
theorem op_mulV : OpR X (binaryOp .Mult) (rMulV X.K) := (op_mul.or op_mulW).or (op_rep.or op_repT)
theorem ds_mul (hK : X.K = G.K) : OpS G dMul (rMulV X.K) := by
  rw [hK]
  intro W σ rho H M x y v w Q S rx ry P
  cases x <;> cases y <;> try exact P.elim
  · cases rep_int rx; cases rep_int ry
    simp only [dMul] at P
    split at P
    · rename_i h
      simp only [mulOk, Bool.or_eq_true, decide_eq_true_eq] at h
      rcases h with (h | h) | h
      · exact .inl (.inl ⟨_, _, rfl, rfl, .inl h, good_int S P⟩)
      · exact .inl (.inl ⟨_, _, rfl, rfl, .inr h, good_int S P⟩)
      · exact .inl (.inr ⟨_, _, rfl, rfl, h, good_int S P⟩)
    · exact P.elim
  · cases rep_int ry
    obtain ⟨a, vs, rfl, h1, h2⟩ := rep_tup rx
    simp only [dMul] at P
    split at P
    · rename_i h
      refine .inr (.inr ⟨a, _, vs, rfl, rfl, SqT.of h1, fun e => h.1 ?_, h.2.1, h.2.2.1, by rw [h2.length]; exact h.2.2.2, new_tup S (h2.rep _) P⟩)
      subst e
      have := h2.length; simp at this
      exact List.eq_nil_of_length_eq_zero this.symm
    · exact P.elim
  · cases rep_int ry
    obtain ⟨a, rfl, ha⟩ := rep_ref rx
    simp only [dMul] at P
    split at P
    · rename_i as e1
      split at P
      · rename_i h
        obtain ⟨vs, g1, g2⟩ := S.at_ _ a _ ha e1
        exact .inr (.inl ⟨a, _, vs, rfl, rfl, g1, h.1, h.2.1, by rw [g2.length, ← cap_eq]; exact h.2.2, new_lst S (g2.rep _) P⟩)
      · exact P.elim
    · exact P.elim
theorem ds_fdiv : OpS G dFdiv (rI CDivW fun i j => .int (i / j)) := by
  intro W σ rho H M x y v w Q S rx ry P
  cases x <;> cases y <;> try exact P.elim
  cases rep_int rx; cases rep_int ry
  simp only [dFdiv] at P
  split at P
  · rename_i h; exact ⟨_, _, rfl, rfl, h, good_int S P⟩
  · exact P.elim
theorem ds_mod : OpS G dMod (rI (fun _ j => 0 < j) fun i j => .int (i % j)) := by
  intro W σ rho H M x y v w Q S rx ry P
  cases x <;> cases y <;> try exact P.elim
  cases rep_int rx; cases rep_int ry
  simp only [dMod] at P
  split at P
  · rename_i h; exact ⟨_, _, rfl, rfl, h, good_int S P⟩
  · exact P.elim
theorem ds_pow : OpS G dPow (rI CPow fun i j => .int (i ^ j.toNat)) := by
  intro W σ rho H M x y v w Q S rx ry P
  cases x <;> cases y <;> try exact P.elim
  cases rep_int rx; cases rep_int ry
  simp only [dPow] at P
  split at P
  · rename_i h; exact ⟨_, _, rfl, rfl, h, good_int S P⟩
  · exact P.elim
theorem ds_neg : UnS G dNeg (rU fun i => .int (-i)) := by
  intro W σ rho H M x v Q S rx P
  cases x <;> try exact P.elim
  cases rep_int rx
  exact ⟨_, rfl, good_int S P⟩
end
def dCmp (p : Int → Int → Bool) (x y : D) (M : Store) : Out D := match x, y with
  | .int i, .int j => .ok (.bl (p i j)) M
  | _, _ => .bad
def dLt : D → D → Store → Out D := dCmp fun i j => decide (i < j)
def dLe : D → D → Store → Out D := dCmp fun i j => decide (i ≤ j)
def dGt : D → D → Store → Out D := dCmp fun i j => decide (j < i)
def dGe : D → D → Store → Out D := dCmp fun i j => decide (j ≤ i)
def dEq (neg : Bool) (x y : D) (M : Store) : Out D := match toPy M 6 x, toPy M 6 y with
  | some a, some b => if a.canLay0 = true ∧ b.canLay0 = true ∧ min a.depth b.depth ≤ 150 then .ok (.bl (if neg then !PyData.eqv a b else PyData.eqv a b)) M else .bad
  | _, _ => .bad
/-- is None, is a bool -/
def dIs (neg : Bool) (x y : D) (M : Store) : Out D := match x, y with
  | .non, .non => .ok (.bl (!neg)) M
  | .bl _, .non | .int _, .non | .str _, .non | .tup _, .non | .ref _, .non => .ok (.bl neg) M
  | .bl a, .bl b => .ok (.bl (if neg then !decide (a = b) else decide (a = b))) M
  | _, _ => .bad
/-- a dict's key, the keys being ints and texts -/
def keyK : D → Option Key
  | .int i => some (Sum.inl i)
  | .str x => some (Sum.inr x)
  | _ => none
def keysT : List D → Option (List Key)
  | [] => some []
  | d :: ds => match keyK d, keysT ds with
    | some k, some ks => some (k :: ks)
    | _, _ => none
/-- .. being tuples of such -/
def keyT : D → Option (List Key)
  | .tup ds => keysT ds
  | _ => none
def findK {κ : Type} [DecidableEq κ] (kvs : List (κ × D)) (k : κ) : Option D := match kvs with
  | [] => none
  | (k', d) :: r => if k' = k then some d else findK r k
def dIn (neg : Bool) (x y : D) (M : Store) : Out D :=
  let out (b : Bool) : Out D := .ok (.bl (if neg then !b else b)) M
  match y with
  | .str t => (match x with
    | .str z => out (!(Builtin.Str.occurrences t z 0 t.length 1).isEmpty)
    | _ => .bad)
  | .tup _ | .ktp _ => (match toPy M 6 x, toPy M 6 y with
    | some d, some (.tuple ds) => if d.canLay0 = true ∧ PyData.canLayAll0 ds = true ∧ min (PyData.depthAll ds) d.depth ≤ 150 then out (ds.any fun z => PyData.eqv z d) else .bad
    | _, _ => .bad)
  | .ref n => (match M[n]? with
    | some (.dicK kvs) => (match keyK x with
      | some k => out (findK kvs k).isSome
      | none => .bad)
    | some (.dicT kvs) => (match keyT x with
      | some k => out (findK kvs k).isSome
      | none => .bad)
    | _ => (match toPy M 6 x, toPy M 6 y with
      | some d, some (.list ds) => if d.canLay0 = true ∧ PyData.canLayAll0 ds = true ∧ min (PyData.depthAll ds) d.depth ≤ 150 then out (ds.any fun z => PyData.eqv z d) else .bad
      | _, _ => .bad))
  | _ => .bad
section
variable {G : Gd} {X : Cx} {W : WX}
theorem ds_cmp (p : Int → Int → Bool) : OpS G (dCmp p) (rI0 fun i j => .bl (p i j)) := by
  intro W σ rho H M x y v w Q S rx ry P
  cases x <;> cases y <;> try exact P.elim
  cases rep_int rx; cases rep_int ry
  exact ⟨_, _, rfl, rfl, good_bl S P⟩
def rEqM (K : PySem.W.Frag) (neg : Bool) : R2 := fun x y H Q => ∃ d e, Dp K H x d ∧ Dp K H y e ∧ d.canLay0 = true ∧ e.canLay0 = true ∧ min d.depth e.depth ≤ 150 ∧ Q (.bl (if neg then !PyData.eqv d e else PyData.eqv d e)) H
theorem op_eqM (hu : X.A.units + 160 < cLine) : OpR X (compareOp .Eq) (rEqM X.K false) := by
  intro pins s σ H x y v u Q I rx ry ⟨d, e, hd, he, sd, se, hm, q⟩
  obtain ⟨as, r1⟩ := Dp.reads I d x v hd rx
  obtain ⟨bs, r2⟩ := Dp.reads I e y u he ry
  exact SeqAt.compareEq_reads r1 r2 sd se (by omega) ⟨.bl _, H, I, rfl, q⟩
theorem op_neM (hu : X.A.units + 160 < cLine) : OpR X (compareOp .NotEq) (rEqM X.K true) := by
  intro pins s σ H x y v u Q I rx ry ⟨d, e, hd, he, sd, se, hm, q⟩
  obtain ⟨as, r1⟩ := Dp.reads I d x v hd rx
  obtain ⟨bs, r2⟩ := Dp.reads I e y u he ry
  exact SeqAt.compareNe_reads r1 r2 sd se (by omega) ⟨.bl _, H, I, rfl, q⟩
theorem ds_eq (hK : X.K = G.K) (neg : Bool) : OpS G (dEq neg) (rEqM X.K neg) := by
  rw [hK]
  intro W σ rho H M x y v w Q S rx ry P
  simp only [dEq] at P
  split at P
  · rename_i a b e1 e2
    split at P
    · rename_i h
      exact ⟨a, b, toPy_dp S 6 x a v e1 rx, toPy_dp S 6 y b w e2 ry, h.1, h.2.1, h.2.2, good_bl S P⟩
    · exact P.elim
  · exact P.elim
def rIsV (neg : Bool) : R2 := fun x y H Q => (y = .non ∧ Q (.bl (if neg then !decide (x = .non) else decide (x = .non))) H) ∨ (∃ a b : Bool, x = .bl a ∧ y = .bl b ∧ Q (.bl (if neg then !decide (a = b) else decide (a = b))) H)
theorem op_isV : OpR X (compareOp .Is) (rIsV false) := op_isN.or op_is_bl
theorem op_isnotV : OpR X (compareOp .IsNot) (rIsV true) := op_notN.or op_isnot_bl
theorem ds_is (neg : Bool) : OpS G (dIs neg) (rIsV neg) := by
  intro W σ rho H M x y v w Q S rx ry P
  cases y with
  | non =>
    cases rep_non ry
    cases x with
    | non => cases rep_non rx; refine .inl ⟨rfl, ?_⟩; have := good_bl S P; cases neg <;> simpa using this
    | bl b => cases rep_bl rx; refine .inl ⟨rfl, ?_⟩; have := good_bl S P; cases neg <;> simpa using this
    | int b => cases rep_int rx; refine .inl ⟨rfl, ?_⟩; have := good_bl S P; cases neg <;> simpa using this
    | str b => cases rep_str rx; refine .inl ⟨rfl, ?_⟩; have := good_bl S P; cases neg <;> simpa using this
    | tup b => obtain ⟨a, vs, rfl, _⟩ := rep_tup rx; refine .inl ⟨rfl, ?_⟩; have := good_bl S P; cases neg <;> simpa using this
    | ref b => obtain ⟨a, rfl, _⟩ := rep_ref rx; refine .inl ⟨rfl, ?_⟩; have := good_bl S P; cases neg <;> simpa using this
    | cst b => exact P.elim
    | ktp b => exact P.elim
  | bl b =>
    cases rep_bl ry
    cases x <;> try exact P.elim
    cases rep_bl rx
    exact .inr ⟨_, _, rfl, rfl, good_bl S P⟩
  | _ => cases x <;> exact P.elim
theorem keyK_rep {K : PySem.W.Frag} {rho : List Addr} {H : Hp} {d : D} {k : Key} {v : V} (h : keyK d = some k) (r : Rep K rho H d v) : v = kV k := by
  cases d with
  | int i => simp only [keyK, Option.some.injEq] at h; cases rep_int r; subst h; rfl
  | str i => simp only [keyK, Option.some.injEq] at h; cases rep_str r; subst h; rfl
  | _ => simp [keyK] at h
theorem keysT_rep {K : PySem.W.Frag} {rho : List Addr} {H : Hp} : ∀ {ds : List D} {ks : List Key} {vs : List V}, keysT ds = some ks → Reps K rho H ds vs → vs = ks.map kV
  | [], ks, vs, h, r => by simp only [keysT, Option.some.injEq] at h; simp only [Reps] at r; subst h r; rfl
  | d :: ds, ks, vs, h, r => by
    simp only [Reps] at r
    obtain ⟨v, ws, rfl, r1, r2⟩ := r
    simp only [keysT] at h
    split at h
    · rename_i k ks' h1 h2
      simp only [Option.some.injEq] at h
      subst h
      rw [keyK_rep h1 r1, keysT_rep h2 r2]; rfl
    · cases h
theorem findK_val {κ : Type} [DecidableEq κ] {K : PySem.W.Frag} {rho : List Addr} {H : Hp} : ∀ {kvs : List (κ × D)} {vs : List (κ × V)}, RepKV K rho H kvs vs → ∀ k, (findK kvs k = none ∧ valV vs k = none) ∨ ∃ d v, findK kvs k = some d ∧ valV vs k = some v ∧ Rep K rho H d v
  | [], vs, h, k => by
    have := h.1; simp at this
    cases vs with
    | nil => exact .inl ⟨rfl, rfl⟩
    | cons _ _ => simp at this
  | (k', d) :: r, vs, h, k => by
    obtain ⟨h1, h2⟩ := h
    cases vs with
    | nil => simp at h1
    | cons p vs =>
      obtain ⟨k2, v⟩ := p
      simp only [List.map_cons, List.cons.injEq] at h1
      simp only [List.map_cons, Reps] at h2
      obtain ⟨v', ws, e, r1, r2⟩ := h2
      cases e
      obtain ⟨e1, e2⟩ := h1
      subst e1
      by_cases hk : k' = k
      · subst hk
        right
        exact ⟨d, v, by simp [findK], by simp [valV], r1⟩
      · rcases findK_val (kvs := r) (vs := vs) ⟨e2, r2⟩ k with ⟨a1, a2⟩ | ⟨d', w, a1, a2, a3⟩
        · left; exact ⟨by simp [findK, hk, a1], by unfold valV at a2 ⊢; rw [List.find?_cons_of_neg (by simp [hk])]; exact a2⟩
        · right; exact ⟨d', w, by simp [findK, hk, a1], by unfold valV at a2 ⊢; rw [List.find?_cons_of_neg (by simp [hk])]; exact a2, a3⟩
end
end Ev
namespace Ev
open PySem L2
section
variable {G : Gd} {X : Cx} {W : WX}
def rInM (K : PySem.W.Frag) (neg : Bool) : R2 := fun x y H Q =>
  ((∃ i j, x = .str i ∧ y = .str j ∧ Q (.bl (if neg then !(!(Builtin.Str.occurrences j i 0 j.length 1).isEmpty) else (!(Builtin.Str.occurrences j i 0 j.length 1).isEmpty))) H) ∨
  (∃ d ds, Dp K H x d ∧ Dp K H y (.list ds) ∧ d.canLay0 = true ∧ PyData.canLayAll0 ds = true ∧ min (PyData.depthAll ds) d.depth ≤ 150 ∧ Q (.bl (if neg then !(ds.any fun z => PyData.eqv z d) else ds.any fun z => PyData.eqv z d)) H)) ∨
  ((∃ d ds, Dp K H x d ∧ Dp K H y (.tuple ds) ∧ d.canLay0 = true ∧ PyData.canLayAll0 ds = true ∧ min (PyData.depthAll ds) d.depth ≤ 150 ∧ Q (.bl (if neg then !(ds.any fun z => PyData.eqv z d) else ds.any fun z => PyData.eqv z d)) H) ∨
  (∃ a r, y = .ref a ∧ DGet H a x r ∧ Q (.bl (if neg then !r.isSome else r.isSome)) H))
theorem op_inM (hu : X.A.units + 160 < cLine) : OpR X (compareOp .In) (rInM X.K false) := by
  refine (op_in_str.or ?_).or (OpR.or ?_ ?_)
  · intro pins s σ H x y v u Q I rx ry ⟨d, ds, hd, he, sd, se, hm, q⟩
    obtain ⟨as, r1⟩ := Dp.reads I d x v hd rx
    obtain ⟨bs, r2⟩ := Dp.reads I (.list ds) y u he ry
    exact SeqAt.in_list_reads r2 r1 se sd (by omega) ⟨.bl _, H, I, rfl, q⟩
  · intro pins s σ H x y v u Q I rx ry ⟨d, ds, hd, he, sd, se, hm, q⟩
    obtain ⟨as, r1⟩ := Dp.reads I d x v hd rx
    obtain ⟨bs, r2⟩ := Dp.reads I (.tuple ds) y u he ry
    exact SeqAt.in_tuple_reads r2 r1 se sd (by omega) ⟨.bl _, H, I, rfl, q⟩
  · intro pins s σ H x y v u Q I rx ry ⟨a, r, hy, g, q⟩
    subst hy
    obtain rfl : u = Value.ref a := ry
    exact d_in (by omega) I g rx fun s3 I3 => ⟨.bl _, H, I3, rfl, q⟩
theorem op_notInM (hu : X.A.units + 160 < cLine) : OpR X (compareOp .NotIn) (rInM X.K true) := by
  refine (op_notin_str.or ?_).or (OpR.or ?_ ?_)
  · intro pins s σ H x y v u Q I rx ry ⟨d, ds, hd, he, sd, se, hm, q⟩
    obtain ⟨as, r1⟩ := Dp.reads I d x v hd rx
    obtain ⟨bs, r2⟩ := Dp.reads I (.list ds) y u he ry
    exact SeqAt.notIn_list_reads r2 r1 se sd (by omega) ⟨.bl _, H, I, rfl, q⟩
  · intro pins s σ H x y v u Q I rx ry ⟨d, ds, hd, he, sd, se, hm, q⟩
    obtain ⟨as, r1⟩ := Dp.reads I d x v hd rx
    obtain ⟨bs, r2⟩ := Dp.reads I (.tuple ds) y u he ry
    exact SeqAt.notIn_tuple_reads r2 r1 se sd (by omega) ⟨.bl _, H, I, rfl, q⟩
  · intro pins s σ H x y v u Q I rx ry ⟨a, r, hy, g, q⟩
    subst hy
    obtain rfl : u = Value.ref a := ry
    exact d_notIn (by omega) I g rx fun s3 I3 => ⟨.bl _, H, I3, rfl, q⟩
/-- the key of a dict, and what stands there -/
def dictAt (M : Store) (n : Nat) (y : D) : Option (Option D) := match M[n]? with
  | some (.dicK kvs) => (match keyK y with
    | some k => some (findK kvs k)
    | none => none)
  | some (.dicT kvs) => (match keyT y with
    | some k => some (findK kvs k)
    | none => none)
  | _ => none
theorem keyT_rep {K : PySem.W.Frag} {rho : List Addr} {H : Hp} {d : D} {k : List Key} {v : V} (h : keyT d = some k) (r : Rep K rho H d v) : ∃ b, v = .ref b ∧ H b = some (.tup (k.map kV)) := by
  cases d <;> simp only [keyT] at h <;> try cases h
  obtain ⟨a, vs, rfl, h1, h2⟩ := rep_tup r
  rw [keysT_rep h h2] at h1
  exact ⟨a, rfl, h1⟩
theorem dictAt_rep {T : Tt} {K : PySem.W.Frag} {rho : List Addr} {H : Hp} {M : Store} {n : Nat} {y : D} {o : Option D} {a : Addr} {w : V} (S : StR K T rho H M) (h : dictAt M n y = some o) (ha : rho[n]? = some a) (ry : Rep K rho H y w) :
    ∃ r, DGet H a w r ∧ ((o = none ∧ r = none) ∨ ∃ d v, o = some d ∧ r = some v ∧ Rep K rho H d v) := by
  unfold dictAt at h
  split at h
  · rename_i kvs hm
    obtain ⟨vs, g1, g2⟩ := S.at_ _ a _ ha hm
    split at h
    · rename_i k hk
      simp only [Option.some.injEq] at h
      have hw := keyK_rep hk ry
      subst hw
      refine ⟨_, DGet.k (k := k) g1, ?_⟩
      rcases findK_val g2 k with ⟨a1, a2⟩ | ⟨d, v, a1, a2, a3⟩
      · exact .inl ⟨h ▸ a1, a2⟩
      · exact .inr ⟨d, v, h ▸ a1, a2, a3⟩
    · cases h
  · rename_i kvs hm
    obtain ⟨vs, g1, g2⟩ := S.at_ _ a _ ha hm
    split at h
    · rename_i k hk
      simp only [Option.some.injEq] at h
      obtain ⟨b, rfl, hb⟩ := keyT_rep hk ry
      refine ⟨_, DGet.t (k := k) g1 hb, ?_⟩
      rcases findK_val g2 k with ⟨a1, a2⟩ | ⟨d, v, a1, a2, a3⟩
      · exact .inl ⟨h ▸ a1, a2⟩
      · exact .inr ⟨d, v, h ▸ a1, a2, a3⟩
    · cases h
  · cases h
theorem ds_in (hK : X.K = G.K) (neg : Bool) : OpS G (dIn neg) (rInM X.K neg) := by
  rw [hK]
  intro W σ rho H M x y v w Q S rx ry P
  cases y with
  | str t =>
    cases rep_str ry
    cases x <;> simp only [dIn] at P <;> try exact P.elim
    cases rep_str rx
    exact .inl (.inl ⟨_, _, rfl, rfl, good_bl S P⟩)
  | tup ds =>
    simp only [dIn] at P
    split at P
    · rename_i d es e1 e2
      split at P
      · rename_i h
        exact .inr (.inl ⟨d, es, toPy_dp S 6 x d v e1 rx, toPy_dp S 6 _ _ w e2 ry, h.1, h.2.1, h.2.2, good_bl S P⟩)
      · exact P.elim
    · exact P.elim
  | ktp ds =>
    simp only [dIn] at P
    split at P
    · rename_i d es e1 e2
      split at P
      · rename_i h
        exact .inr (.inl ⟨d, es, toPy_dp S 6 x d v e1 rx, toPy_dp S 6 _ _ w e2 ry, h.1, h.2.1, h.2.2, good_bl S P⟩)
      · exact P.elim
    · exact P.elim
  | ref n =>
    have key : ∀ (o : Option D), dictAt M n x = some o → Post G W σ rho H (GoodD G.K Q) (.ok (.bl (if neg then !o.isSome else o.isSome)) M) → rInM G.K neg v w H Q := fun o ho P => by
      obtain ⟨a, rfl, ha⟩ := rep_ref ry
      obtain ⟨r, g, hr⟩ := dictAt_rep S ho ha rx
      refine .inr (.inr ⟨a, r, rfl, g, ?_⟩)
      have e : r.isSome = o.isSome := by rcases hr with ⟨rfl, rfl⟩ | ⟨d, v, rfl, rfl, _⟩ <;> rfl
      rw [e]; exact good_bl S P
    simp only [dIn] at P
    split at P
    · rename_i kvs hm
      split at P
      · rename_i k hk
        exact key (findK kvs k) (by simp [dictAt, hm, hk]) P
      · exact P.elim
    · rename_i kvs hm
      split at P
      · rename_i k hk
        exact key (findK kvs k) (by simp [dictAt, hm, hk]) P
      · exact P.elim
    · split at P
      · rename_i d es e1 e2
        split at P
        · rename_i h
          exact .inl (.inr ⟨d, es, toPy_dp S 6 x d v e1 rx, toPy_dp S 6 _ _ w e2 ry, h.1, h.2.1, h.2.2, good_bl S P⟩)
        · exact P.elim
      · exact P.elim
  | _ => exact P.elim
def dIx (x y : D) (M : Store) : Out D := match x with
  | .tup ds => (match y with
    | .int i => (match atI ds i with
      | some d => .ok d M
      | none => .bad)
    | _ => .bad)
  | .str z => (match y with
    | .int i => (match atI z.cps.toList i with
      | some c => if z.length ≤ cap then .ok (.str ⟨#[c]⟩) M else .bad
      | none => .bad)
    | _ => .bad)
  | .ref n => (match M[n]? with
    | some (.lst ds) => (match y with
      | .int i => (match atI ds i with
        | some d => .ok d M
        | none => .bad)
      | _ => .bad)
    | some (.frz ds) => (match y with
      | .int i => (match atI ds i with
        | some d => .ok d M
        | none => .bad)
      | _ => .bad)
    | _ => (match dictAt M n y with
      | some (some d) => .ok d M
      | _ => .bad))
  | _ => .bad
theorem reps_atI {K : PySem.W.Frag} {rho : List Addr} {H : Hp} {ds : List D} {vs : List V} {i : Int} {d : D} (r : Reps K rho H ds vs) (h : atI ds i = some d) : ∃ v, atI vs i = some v ∧ Rep K rho H d v := by
  unfold atI at h ⊢
  rw [r.length]
  cases e : ixN ds.length i with
  | none => rw [e] at h; simp at h
  | some j =>
    rw [e] at h
    exact r.get (by simpa using h)
def rGetD : R2 := fun x y H Q => ∃ a v, x = .ref a ∧ DGet H a y (some v) ∧ Q v H
theorem ix_dict (hu : X.A.units + 1 < cLine) : IxR X rGetD := by
  intro value slice pins s σ H x y v u Q I rx ry ⟨a, r, hx, g, q⟩ hs
  subst hx
  obtain rfl : v = Value.ref a := rx
  exact PyProof.Rows.tail_any (dict_typeIs I g) PySem.F.slot_dict_getitem.lookup (d_getItem hu I g ry fun w' s3 I3 rw' => ⟨r, H, I3, rw', q⟩) hs
def rIxM (K : PySem.W.Frag) : R2 := fun x y H Q => rIx K x y H Q ∨ rGetD x y H Q
theorem ix_all (hu : X.A.units + 1 < cLine) : IxR X (rIxM X.K) := ix_seq.or (ix_dict hu)
theorem ds_ix (hK : X.K = G.K) : OpS G dIx (rIxM X.K) := by
  rw [hK]
  intro W σ rho H M x y v w Q S rx ry P
  cases x <;> simp only [dIx] at P <;> try exact P.elim
  · rename_i z
    cases rep_str rx
    split at P
    · cases rep_int ry
      split at P
      · rename_i c hc
        split at P
        · rename_i hz
          exact .inl (.inr (.inr ⟨_, _, _, rfl, rfl, by rw [← cap_eq]; exact hz, hc, good_str S P⟩))
        · exact P.elim
      · exact P.elim
    · exact P.elim
  · obtain ⟨a, vs, rfl, h1, h2⟩ := rep_tup rx
    split at P
    · cases rep_int ry
      split at P
      · rename_i d hd
        obtain ⟨u, hu, ru⟩ := reps_atI h2 hd
        exact .inl (.inr (.inl ⟨a, vs, _, u, rfl, rfl, SqT.of h1, hu, P.now S u ru⟩))
      · exact P.elim
    · exact P.elim
  · obtain ⟨a, rfl, ha⟩ := rep_ref rx
    split at P
    · rename_i ds hm
      obtain ⟨vs, g1, g2⟩ := S.at_ _ a _ ha hm
      split at P
      · cases rep_int ry
        split at P
        · rename_i d hd
          obtain ⟨u, hu, ru⟩ := reps_atI g2 hd
          exact .inl (.inl ⟨a, vs, _, u, rfl, rfl, SqL.of g1, hu, P.now S u ru⟩)
        · exact P.elim
      · exact P.elim
    · rename_i ds hm
      obtain ⟨vs, g1, g2⟩ := S.at_ _ a _ ha hm
      split at P
      · cases rep_int ry
        split at P
        · rename_i d hd
          obtain ⟨u, hu, ru⟩ := reps_atI g2 hd
          exact .inl (.inl ⟨a, vs, _, u, rfl, rfl, g1.sq, hu, P.now S u ru⟩)
        · exact P.elim
      · exact P.elim
    · split at P
      · rename_i d hd
        obtain ⟨r, g, hr⟩ := dictAt_rep S hd ha ry
        rcases hr with ⟨h, _⟩ | ⟨d', u, h1, rfl, ru⟩
        · cases h
        · cases h1
          exact .inr ⟨a, u, rfl, g, P.now S u ru⟩
      · exact P.elim
theorem ev_ix {fa fb : EvE} {a b : Expr} {pos : Pos} (hK : X.K = G.K) (hu : X.A.units + 1 < cLine) (ha : PEv G X W fa a) (hb : PEv G X W fb b) (hs : PlainIx b := by intro _ _; rfl) : PEv G X W (eBin dIx fa fb) (.Subscript a b pos) :=
  PE.weak (pe_ix (ix_all hu) ha hb hs) fun σ H Q ⟨eta, M, rho, E, S, P⟩ => tE2 E S P fun r2 H2 M2 x y v w _ S2 rx ry P2 => ds_ix hK W σ r2 H2 M2 x y v w Q S2 rx ry P2
def cutD (xs : List D) (lo hi : Option Int) : List D := (xs.drop (HT.sIx xs.length 0 lo)).take (HT.sIx xs.length xs.length hi - HT.sIx xs.length 0 lo)
theorem Reps.cut {K : PySem.W.Frag} {rho : List Addr} {H : Hp} {ds : List D} {vs : List V} (r : Reps K rho H ds vs) (lo hi : Option Int) : Reps K rho H (cutD ds lo hi) (cutV vs lo hi) := by
  unfold cutD cutV
  rw [r.length]
  exact (r.drop _).take _
abbrev EvO := Env → Store → Out (Option Int)
def oNone : EvO := fun _ M => .ok none M
def oSome (f : EvE) : EvO := fun eta M => (f eta M).bind fun d M1 => match d with
  | .int i => .ok (some i) M1
  | _ => .bad
def dCut (x : D) (lo hi : Option Int) (M : Store) : Out D := match x with
  | .tup ds => .ok (.tup (cutD ds lo hi)) M
  | .ref n => (match M[n]? with
    | some (.lst ds) => .ok (.ref M.length) (M ++ [.lst (cutD ds lo hi)])
    | some (.frz ds) => .ok (.ref M.length) (M ++ [.lst (cutD ds lo hi)])
    | _ => .bad)
  | _ => .bad
def eCut (f : EvE) (lo hi : EvO) : EvE := fun eta M => (f eta M).bind fun x M1 => (lo eta M1).bind fun l M2 => (hi eta M2).bind fun h M3 => dCut x l h M3
def tO (G : Gd) (W : WX) (f : EvO) : TO := fun σ H Q => ∃ eta M rho, EnvR G.K rho H eta σ ∧ StR G.K G.T rho H M ∧ Post G W σ rho H (fun _ H' o _ => Q o H') (f eta M)
def POv (G : Gd) (X : Cx) (W : WX) (f : EvO) (e : Option Expr) : Prop := PO X e (tO G W f)
theorem PO.weak {e : Option Expr} {t t' : TO} (h : PO X e t) (k : ∀ σ H Q, t' σ H Q → t σ H Q) : PO X e t' := ⟨fun pins s σ H Q I q => h.run pins s σ H Q I (k σ H Q q)⟩
theorem ov_none : POv G X W oNone none := PO.weak po_none fun σ H Q ⟨eta, M, rho, E, S, P⟩ => P.now S
theorem ov_some {f : EvE} {e : Expr} (h : PEv G X W f e) : POv G X W (oSome f) (some e) :=
  PO.weak (po_some h) fun σ H Q ⟨eta, M, rho, E, S, P⟩ => ⟨eta, M, rho, E, S, P.bind.imp fun r1 H1 d M1 e1 S1 P1 v rv => by
    cases d <;> try exact P1.elim
    cases rep_int rv
    exact ⟨_, rfl, P1.now S1⟩⟩
theorem whole_cut (xs : List D) (lo hi : Option Int) (h : HT.sIx xs.length 0 lo = 0 ∧ HT.sIx xs.length xs.length hi = xs.length) : cutD xs lo hi = xs := by
  unfold cutD; rw [h.1, h.2]; simp
theorem ev_cut {f : EvE} {l h : EvO} {e : Expr} {lo hi : Option Expr} {p2 pos : Pos} (hK : X.K = G.K) (he : PEv G X W f e) (hl : POv G X W l lo) (hh : POv G X W h hi) : PEv G X W (eCut f l h) (.Subscript e (.Slice lo hi none p2) pos) := by
  refine PE.weak (pe_slice (sl_list.or sl_tupA) he hl hh) fun σ H Q ⟨eta, M, rho, E, S, P⟩ => ?_
  refine ⟨eta, M, rho, E, S, P.bind.imp fun r1 H1 x M1 e1 S1 P1 v rv => ⟨eta, M1, r1, E.mono e1, S1, P1.bind.imp fun r2 H2 l M2 e2 S2 P2 => ⟨eta, M2, r2, (E.mono e1).mono e2, S2, P2.bind.imp fun r3 H3 h M3 e3 S3 P3 => ?_⟩⟩⟩
  have rv3 := Rep.mono e3 _ _ (Rep.mono e2 _ _ rv)
  rw [hK]
  cases x <;> simp only [dCut] at P3 <;> try exact P3.elim
  · rename_i ds
    obtain ⟨a, vs, rfl, h1, h2⟩ := rep_tup rv3
    refine .inr ⟨a, vs, rfl, SqT.of h1, fun hw => ?_, fun _ => new_tup S3 (h2.cut l h) P3⟩
    rw [h2.length] at hw
    rw [whole_cut ds l h hw] at P3
    refine P3.now S3 _ ?_
    simp only [Rep]; exact ⟨a, vs, rfl, h1, h2⟩
  · obtain ⟨a, rfl, ha⟩ := rep_ref rv3
    split at P3
    · rename_i ds hm
      obtain ⟨vs, g1, g2⟩ := S3.at_ _ a _ ha hm
      exact .inl ⟨a, vs, rfl, SqL.of g1, new_lst S3 (g2.cut l h) P3⟩
    · rename_i ds hm
      obtain ⟨vs, g1, g2⟩ := S3.at_ _ a _ ha hm
      exact .inl ⟨a, vs, rfl, g1.sq, new_lst S3 (g2.cut l h) P3⟩
    · exact P3.elim
def lNil : EvL := fun _ M => .ok [] M
def lCons (f : EvE) (g : EvL) : EvL := fun eta M => (f eta M).bind fun d M1 => (g eta M1).bind fun ds M2 => .ok (d :: ds) M2
theorem lv_nil : PLv G X W lNil [] := PA.weak pa_nil fun σ H Q ⟨eta, M, rho, E, S, P⟩ => P.now S _ Reps.nil
theorem lv_cons {f : EvE} {g : EvL} {e : Expr} {es : List Expr} (he : PEv G X W f e) (hes : PLv G X W g es) (hs : starEach (e :: es) X.env = (false, eval e X.env) :: starEach es X.env := by rfl) : PLv G X W (lCons f g) (e :: es) :=
  PA.weak (pa_cons he hes hs) fun σ H Q ⟨eta, M, rho, E, S, P⟩ => ⟨eta, M, rho, E, S, P.bind.imp fun r1 H1 x M1 e1 S1 P1 v rv => ⟨eta, M1, r1, E.mono e1, S1, P1.bind.imp fun r2 H2 ds M2 e2 S2 P2 vs rvs =>
    P2.now S2 _ (Reps.cons (Rep.mono e2 _ _ rv) rvs)⟩⟩
def eTup (g : EvL) : EvE := fun eta M => (g eta M).bind fun ds M1 => if ds.length ≤ cap then .ok (.tup ds) M1 else .bad
def eLst (g : EvL) : EvE := fun eta M => (g eta M).bind fun ds M1 => if ds.length ≤ cap then .ok (.ref M1.length) (M1 ++ [.lst ds]) else .bad
theorem ev_tup {g : EvL} {es : List Expr} {x1} {pos : Pos} (h : PLv G X W g es) : PEv G X W (eTup g) (.Tuple es x1 pos) :=
  PE.weak (pe_tup h) fun σ H Q ⟨eta, M, rho, E, S, P⟩ => ⟨eta, M, rho, E, S, P.bind.imp fun r1 H1 ds M1 e1 S1 P1 vs rvs => by
    split at P1
    · rename_i h
      exact ⟨by rw [rvs.length, ← cap_eq]; exact h, new_tup S1 rvs P1⟩
    · exact P1.elim⟩
theorem ev_lst {g : EvL} {es : List Expr} {pos : Pos} (h : PLv G X W g es) : PEv G X W (eLst g) (.List es pos) :=
  PE.weak (pe_lst h) fun σ H Q ⟨eta, M, rho, E, S, P⟩ => ⟨eta, M, rho, E, S, P.bind.imp fun r1 H1 ds M1 e1 S1 P1 vs rvs => by
    split at P1
    · rename_i h
      exact ⟨by rw [rvs.length, ← cap_eq]; exact h, new_lst S1 rvs P1⟩
    · exact P1.elim⟩
end
end Ev
namespace Ev
open PySem L2
inductive OutS where
  | nx (eta : Env) (M : Store)
  | rt (d : D) (M : Store)
  | bk (eta : Env) (M : Store)
  | ct (eta : Env) (M : Store)
  | exc (x : Nat) (fs : List (Str × D)) (eta : Env) (M : Store)
  | bad
abbrev EvS := Env → Store → OutS
def OutS.bindE {α : Type} (o : Out α) (eta : Env) (k : α → Store → OutS) : OutS := match o with
  | .ok a M => k a M
  | .exc x fs M => .exc x fs eta M
  | .bad => .bad
def PostS (G : Gd) (W : WX) (rho : List Addr) (H : Hp) (E : Ends) : OutS → Prop
  | .nx eta M => ∀ rho' H' σ', Ext rho H rho' H' → StR G.K G.T rho' H' M → EnvR G.K rho' H' eta σ' → E.nx σ' H'
  | .rt d M => ∀ rho' H' v, Ext rho H rho' H' → StR G.K G.T rho' H' M → Rep G.K rho' H' d v → E.rt v H'
  | .bk eta M => ∀ rho' H' σ', Ext rho H rho' H' → StR G.K G.T rho' H' M → EnvR G.K rho' H' eta σ' → E.bk σ' H'
  | .ct eta M => ∀ rho' H' σ', Ext rho H rho' H' → StR G.K G.T rho' H' M → EnvR G.K rho' H' eta σ' → E.ct σ' H'
  | .exc x fs eta M => ∀ rho' H' σ' cls dd, Ext rho H rho' H' → StR G.K G.T rho' H' M → EnvR G.K rho' H' eta σ' → RepX G rho' H' x fs cls dd → W cls dd σ' H'
  | .bad => False
def tS (G : Gd) (W : WX) (f : EvS) : TS := fun E σ H => ∃ eta M rho, EnvR G.K rho H eta σ ∧ StR G.K G.T rho H M ∧ PostS G W rho H E (f eta M)
def PSv (G : Gd) (X : Cx) (W : WX) (f : EvS) (s : Stmt) : Prop := PS X s (tS G W f)
def PSsv (G : Gd) (X : Cx) (W : WX) (f : EvS) (s : List Stmt) : Prop := PSs X s (tS G W f)
section
variable {G : Gd} {X : Cx} {W : WX} {rho rho' : List Addr} {H H' : Hp} {E E' : Ends}
theorem PostS.ext {o : OutS} (h : PostS G W rho H E o) (e : Ext rho H rho' H') : PostS G W rho' H' E o := by
  cases o with
  | nx eta M => exact fun r1 H1 s1 e1 S1 V1 => h r1 H1 s1 (e.trans e1) S1 V1
  | rt d M => exact fun r1 H1 v e1 S1 R1 => h r1 H1 v (e.trans e1) S1 R1
  | bk eta M => exact fun r1 H1 s1 e1 S1 V1 => h r1 H1 s1 (e.trans e1) S1 V1
  | ct eta M => exact fun r1 H1 s1 e1 S1 V1 => h r1 H1 s1 (e.trans e1) S1 V1
  | exc x fs eta M => exact fun r1 H1 s1 c d e1 S1 V1 X1 => h r1 H1 s1 c d (e.trans e1) S1 V1 X1
  | bad => exact h
theorem PostS.bindE {α : Type} {σ : St} {eta : Env} {o : Out α} {k : α → Store → OutS} (V : EnvR G.K rho H eta σ) (h : PostS G W rho H E (OutS.bindE o eta k)) :
    Post G W σ rho H (fun rho' H' a M => PostS G W rho' H' E (k a M)) o := by
  cases o with
  | ok a M => exact fun r1 H1 e1 S1 => PostS.ext h e1
  | exc x fs M => exact fun r1 H1 c d e1 S1 X1 => h r1 H1 σ c d e1 S1 (V.mono e1) X1
  | bad => exact h
def sSkip : EvS := fun eta M => .nx eta M
def sSeq (f g : EvS) : EvS := fun eta M => match f eta M with
  | .nx eta' M' => g eta' M'
  | o => o
theorem sv_nil : PSsv G X W sSkip [] := PSs.weak pss_nil fun E σ H ⟨eta, M, rho, V, S, P⟩ => P rho H σ (Ext.refl _ _) S V
theorem sv_cons {f g : EvS} {s : Stmt} {r : List Stmt} (h : PSv G X W f s) (h' : PSsv G X W g r) : PSsv G X W (sSeq f g) (s :: r) :=
  PSs.weak (pss_cons h h') fun E σ H ⟨eta, M, rho, V, S, P⟩ => ⟨eta, M, rho, V, S, by
    unfold sSeq at P
    cases e : f eta M with
    | nx eta' M' => rw [e] at P; exact fun r1 H1 s1 e1 S1 V1 => ⟨eta', M', r1, V1, S1, P.ext e1⟩
    | rt d M' => rw [e] at P; exact P
    | bk eta' M' => rw [e] at P; exact P
    | ct eta' M' => rw [e] at P; exact P
    | exc x fs eta' M' => rw [e] at P; exact P
    | bad => rw [e] at P; exact P⟩
theorem sv_one {f : EvS} {s : Stmt} (h : PSv G X W f s) : PSsv G X W f [s] := pss_one h
def sBreak : EvS := fun eta M => .bk eta M
def sCont : EvS := fun eta M => .ct eta M
/-- a statement that the run never comes to -/
def sBad : EvS := fun _ _ => .bad
theorem sv_never {s : Stmt} : PSv G X W sBad s := PS.weak ps_never fun E σ H ⟨eta, M, rho, V, S, P⟩ => P
def sExpr (f : EvE) : EvS := fun eta M => OutS.bindE (f eta M) eta fun _ M1 => .nx eta M1
def sRet (f : EvE) : EvS := fun eta M => OutS.bindE (f eta M) eta fun d M1 => .rt d M1
def sRetN : EvS := fun _ M => .rt .non M
def sIf (c : EvT) (f g : EvS) : EvS := fun eta M => OutS.bindE (c eta M) eta fun b M1 => if b = true then f eta M1 else g eta M1
theorem sv_expr {f : EvE} {e : Expr} {pos : Pos} (he : PEv G X W f e) (hs : swapsWith e none pos.line X.env = pure false := by rfl) : PSv G X W (sExpr f) (.Expr e pos) :=
  PS.weak (ps_expr he hs) fun E σ H ⟨eta, M, rho, V, S, P⟩ => ⟨eta, M, rho, V, S, (P.bindE V).imp fun r1 H1 d M1 e1 S1 P1 v rv => P1 r1 H1 σ (Ext.refl _ _) S1 (V.mono e1)⟩
theorem sv_ret {f : EvE} {e : Expr} {pos : Pos} (he : PEv G X W f e) : PSv G X W (sRet f) (.Return (some e) pos) :=
  PS.weak (ps_ret he) fun E σ H ⟨eta, M, rho, V, S, P⟩ => ⟨eta, M, rho, V, S, (P.bindE V).imp fun r1 H1 d M1 e1 S1 P1 v rv => P1 r1 H1 v (Ext.refl _ _) S1 rv⟩
theorem sv_if {c : EvT} {f g : EvS} {e : Expr} {a b : List Stmt} {pos : Pos} (hc : PTv G X W c e) (ha : PSsv G X W f a) (hb : PSsv G X W g b) : PSv G X W (sIf c f g) (.If e a b pos) :=
  PS.weak (ps_if hc ha hb) fun E σ H ⟨eta, M, rho, V, S, P⟩ => ⟨eta, M, rho, V, S, (P.bindE V).imp fun r1 H1 k M1 e1 S1 P1 => by
    cases k with
    | true => exact ⟨eta, M1, r1, V.mono e1, S1, P1⟩
    | false => exact ⟨eta, M1, r1, V.mono e1, S1, P1⟩⟩
theorem EnvR.set {K : PySem.W.Frag} {eta : Env} {σ : St} {d : D} {v : V} (V : EnvR K rho H eta σ) (i : Nat) (r : Rep K rho H d v) : EnvR K rho H (eta.set i (some d)) (σ.set i (some v)) := by
  refine ⟨by simp [V.len], fun j e h => ?_⟩
  by_cases hj : j = i
  · subst hj
    have hl : j < eta.length := by
      have := (List.getElem?_eq_some_iff.mp h).1
      simpa using this
    rw [List.getElem?_set_self hl] at h
    simp only [Option.some.injEq] at h
    subst h
    exact ⟨v, by rw [List.getElem?_set_self (by rw [← V.len]; exact hl)], r⟩
  · rw [List.getElem?_set_ne (Ne.symm hj)] at h
    obtain ⟨w, h1, h2⟩ := V.at_ j e h
    exact ⟨w, by rw [List.getElem?_set_ne (Ne.symm hj)]; exact h1, h2⟩
theorem wipe_set (σ : St) (i : Nat) (x : Option V) : ∀ vs : List Nat, i ∈ vs → wipe (σ.set i x) vs = wipe σ vs
  | [], h => by simp at h
  | v :: vs, h => by
    have key : ∀ (vs : List Nat) (τ : St), wipe (τ.set i x) vs = (if i ∈ vs then wipe τ vs else (wipe τ vs).set i x) := by
      intro vs
      induction vs with
      | nil => intro τ; simp [wipe]
      | cons u us ih =>
        intro τ
        simp only [wipe, ih]
        by_cases hi : i ∈ us
        · simp [hi]
        · by_cases hu : i = u
          · subst hu; simp [hi]
          · have : ¬ i ∈ u :: us := by simp [hu, hi]
            rw [if_neg hi, if_neg this, List.set_comm _ _ hu]
    rw [key]; simp only [if_pos h]
inductive Tgt where
  | nm (i : Nat)
  | tp (ts : List Tgt)
mutual
def Tgt.slots : Tgt → List Nat
  | .nm i => [i]
  | .tp ts => slotsL ts
def slotsL : List Tgt → List Nat
  | [] => []
  | t :: ts => t.slots ++ slotsL ts
end
/-- the members of what is taken apart -/
def partsD (d : D) (M : Store) : Option (List D) := match d with
  | .tup ds => some ds
  | .ref n => (match M[n]? with
    | some (.lst ds) => some ds
    | _ => none)
  | _ => none
mutual
def asg (M : Store) : Tgt → D → Env → Option Env
  | .nm i, d, eta => some (eta.set i (some d))
  | .tp ts, d, eta => match partsD d M with
    | some ds => asgs M ts ds eta
    | none => none
def asgs (M : Store) : List Tgt → List D → Env → Option Env
  | [], [], eta => some eta
  | t :: ts, d :: ds, eta => match asg M t d eta with
    | some eta' => asgs M ts ds eta'
    | none => none
  | _, _, _ => none
end
def tG (G : Gd) (t : Tgt) : TG := fun v σ H Q => ∃ eta M rho d eta', EnvR G.K rho H eta σ ∧ StR G.K G.T rho H M ∧ Rep G.K rho H d v ∧ asg M t d eta = some eta' ∧
  ∀ σ', EnvR G.K rho H eta' σ' → (∀ vs, (∀ i ∈ t.slots, i ∈ vs) → wipe σ' vs = wipe σ vs) → Q σ' H
def tGs (G : Gd) (ts : List Tgt) : TGs := fun ws σ H Q => ∃ eta M rho ds eta', EnvR G.K rho H eta σ ∧ StR G.K G.T rho H M ∧ Reps G.K rho H ds ws ∧ asgs M ts ds eta = some eta' ∧
  ∀ σ', EnvR G.K rho H eta' σ' → (∀ vs, (∀ i ∈ slotsL ts, i ∈ vs) → wipe σ' vs = wipe σ vs) → Q σ' H
def PGv (G : Gd) (X : Cx) (t : Tgt) (e : Expr) : Prop := PG X e (tG G t)
def PGsv (G : Gd) (X : Cx) (ts : List Tgt) (es : List Expr) : Prop := PGs X es (tGs G ts)
theorem PG.weak {e : Expr} {t t' : TG} (h : PG X e t) (k : ∀ v σ H Q, t' v σ H Q → t v σ H Q) : PG X e t' := ⟨fun pins s σ H v u Q I r q => h.run pins s σ H v u Q I r (k v σ H Q q)⟩
theorem PGs.weak {e : List Expr} {t t' : TGs} (h : PGs X e t) (k : ∀ v σ H Q, t' v σ H Q → t v σ H Q) : PGs X e t' := ⟨fun pins s σ H v u Q I r q => h.run pins s σ H v u Q I r (k v σ H Q q)⟩
theorem PG.or {e : Expr} {t t' : TG} (h : PG X e t) (h' : PG X e t') : PG X e (fun v σ H Q => t v σ H Q ∨ t' v σ H Q) := ⟨fun pins s σ H v u Q I r q => q.elim (h.run pins s σ H v u Q I r) (h'.run pins s σ H v u Q I r)⟩
theorem gv_name {i : Nat} {x : Str} {pos : Pos} (hN : X.N.Nodup) (hi : X.N[i]? = some x := by rfl) (hx : Loc X.env.scope x := by first | exact Or.inl rfl | exact Or.inr rfl) (hf : X.fn x = true ∨ X.env.scope.names.lookup x = some .local := by first | exact .inl rfl | exact .inr rfl) : PGv G X (.nm i) (.Name x pos) :=
  PG.weak (pg_name hN hi hx hf) fun v σ H Q ⟨eta, M, rho, d, eta', V, S, r, h, k⟩ => by
    simp only [asg, Option.some.injEq] at h
    subst h
    exact k _ (V.set i r) fun vs hv => wipe_set σ i _ vs (hv i (by simp [Tgt.slots]))
theorem gsv_nil : PGsv G X [] [] := PGs.weak pgs_nil fun ws σ H Q ⟨eta, M, rho, ds, eta', V, S, r, h, k⟩ => by
  cases ds with
  | nil =>
    simp only [asgs, Option.some.injEq] at h
    subst h
    simp only [Reps] at r
    exact ⟨r, k σ V fun _ _ => rfl⟩
  | cons d ds => simp [asgs] at h
theorem gsv_cons {t : Tgt} {ts : List Tgt} {e : Expr} {es : List Expr} (h1 : PGv G X t e) (h2 : PGsv G X ts es) (hs : (assignEach (e :: es) X.env).map (·.2) = assign e X.env :: (assignEach es X.env).map (·.2) := by rfl) : PGsv G X (t :: ts) (e :: es) :=
  PGs.weak (pgs_cons h1 h2 hs) fun ws σ H Q ⟨eta, M, rho, ds, eta', V, S, r, h, k⟩ => by
    cases ds with
    | nil => simp [asgs] at h
    | cons d ds =>
      simp only [Reps] at r
      obtain ⟨v, us, rfl, r1, r2⟩ := r
      simp only [asgs] at h
      split at h
      · rename_i eta1 he
        exact ⟨v, us, rfl, eta, M, rho, d, eta1, V, S, r1, he, fun σ1 V1 w1 => ⟨eta1, M, rho, ds, eta', V1, S, r2, h, fun σ2 V2 w2 => k σ2 V2 fun vs hv => by
          rw [w2 vs fun i hi => hv i (by simp [slotsL, hi]), w1 vs fun i hi => hv i (by simp [slotsL, hi])]⟩⟩
      · cases h
theorem gv_tup {ts : List Tgt} {es : List Expr} {k : Nat} {pos : Pos} {n : Nat} (hK : X.K = G.K) (hc : X.calm = true) (h : PGsv G X ts es)
    (hl : ts.length = n) (hn : (assignEach es X.env).length = n := by rfl) (hst : (assignEach es X.env).findIdx? (·.1) = none := by rfl) : PGv G X (.tp ts) (.Tuple es k pos) :=
  PG.weak (PG.or (pg_tup hc h hn hst) (pg_lst hc h hn hst)) fun v σ H Q ⟨eta, M, rho, d, eta', V, S, r, ha, kk⟩ => by
    have hlen : ∀ (ts : List Tgt) (ds : List D) (eta eta' : Env), asgs M ts ds eta = some eta' → ds.length = ts.length := by
      intro ts
      induction ts with
      | nil => intro ds eta eta' h; cases ds with
        | nil => rfl
        | cons _ _ => simp [asgs] at h
      | cons t ts ih =>
        intro ds eta eta' h
        cases ds with
        | nil => simp [asgs] at h
        | cons d ds =>
          simp only [asgs] at h
          split at h
          · rw [List.length_cons, List.length_cons, ih _ _ _ h]
          · cases h
    simp only [asg] at ha
    split at ha
    · rename_i ds hp
      have e1 := hlen ts ds eta eta' ha
      unfold partsD at hp
      split at hp
      · simp only [Option.some.injEq] at hp
        subst hp
        obtain ⟨a, vs, rfl, h1, h2⟩ := rep_tup r
        exact .inl ⟨a, vs, rfl, by rw [hK]; exact SqT.of h1, by rw [h2.length, e1, hl], eta, M, rho, _, eta', V, S, h2, ha, fun σ' V' w' => kk σ' V' fun vs hv => w' vs fun i hi => hv i (by simpa only [Tgt.slots] using hi)⟩
      · rename_i n0
        obtain ⟨a, rfl, haa⟩ := rep_ref r
        split at hp
        · rename_i ds0 hm
          simp only [Option.some.injEq] at hp
          subst hp
          obtain ⟨vs, g1, g2⟩ := S.at_ _ a _ haa hm
          exact .inr ⟨a, vs, rfl, by rw [hK]; exact SqL.of g1, by rw [g2.length, e1, hl], eta, M, rho, _, eta', V, S, g2, ha, fun σ' V' w' => kk σ' V' fun vs hv => w' vs fun i hi => hv i (by simpa only [Tgt.slots] using hi)⟩
        · cases hp
      · cases hp
    · cases ha
def sAsg (t : Tgt) (f : EvE) : EvS := fun eta M => OutS.bindE (f eta M) eta fun d M1 => match asg M1 t d eta with
  | some eta' => .nx eta' M1
  | none => .bad
theorem sv_asg {t : Tgt} {f : EvE} {tg e : Expr} {pos : Pos} (he : PEv G X W f e) (hg : PGv G X t tg) (hs : swapsWithSole [tg] e pos.line X.env = pure false := by rfl) (hw : swappedStores [tg] e X.env = pure none := by rfl)
    (h1 : (assignEach [tg] X.env).map (·.2) = [assign tg X.env] := by rfl) : PSv G X W (sAsg t f) (.Assign [tg] e pos) :=
  PS.weak (ps_asg he hg hs hw h1) fun E σ H ⟨eta, M, rho, V, S, P⟩ => ⟨eta, M, rho, V, S, (P.bindE V).imp fun r1 H1 d M1 e1 S1 P1 v rv => by
    split at P1
    · rename_i eta' ha
      exact ⟨eta, M1, r1, d, eta', V.mono e1, S1, rv, ha, fun σ' V' _ => P1 r1 H1 σ' (Ext.refl _ _) S1 V'⟩
    · exact P1.elim⟩
theorem sv_set {i : Nat} {x : Str} {f : EvE} {e : Expr} {pos pos' : Pos} (hN : X.N.Nodup) (he : PEv G X W f e) (hi : X.N[i]? = some x := by rfl) (hx : Loc X.env.scope x := by first | exact Or.inl rfl | exact Or.inr rfl)
    (hs : swapsWith e (some (.Name x pos')) pos.line X.env = pure false := by rfl) (hf : X.fn x = true ∨ X.env.scope.names.lookup x = some .local := by first | exact .inl rfl | exact .inr rfl) : PSv G X W (sAsg (.nm i) f) (.Assign [.Name x pos'] e pos) :=
  PS.weak (ps_set hN hi hx he hs hf) fun E σ H ⟨eta, M, rho, V, S, P⟩ => ⟨eta, M, rho, V, S, (P.bindE V).imp fun r1 H1 d M1 e1 S1 P1 v rv => P1 r1 H1 _ (Ext.refl _ _) S1 ((V.mono e1).set i rv)⟩
/-- a, b = x, y and a, b, c = x, y, z of plain local names -/
def setAll : List Nat → List D → Env → Option Env
  | [], [], eta => some eta
  | i :: is, d :: ds, eta => setAll is ds (eta.set i (some d))
  | _, _, _ => none
def sPar (is : List Nat) (g : EvL) : EvS := fun eta M => OutS.bindE (g eta M) eta fun ds M1 => match setAll is ds eta with
  | some eta' => .nx eta' M1
  | none => .bad
theorem sv_par {i j : Nat} {x y : Str} {a b : Expr} {g : EvL} {px py pt pos : Pos} {kt k2 : Nat} {pt2 : Pos} (hc : X.calm = true) (hN : X.N.Nodup) (ha : PLv G X W g [a, b]) (hi : X.N[i]? = some x := by rfl) (hj : X.N[j]? = some y := by rfl) (hij : i ≠ j := by decide)
    (hx : X.env.scope.names.lookup x = some .local := by rfl) (hy : X.env.scope.names.lookup y = some .local := by rfl)
    (hw : swappedStores [.Tuple [.Name x px, .Name y py] kt pt] (.Tuple [a, b] k2 pt2) X.env = pure (some [x, y]) := by rfl)
    (hs : swapsWithSole [.Tuple [.Name x px, .Name y py] kt pt] (.Tuple [a, b] k2 pt2) pos.line X.env = pure false := by rfl) :
    PSv G X W (sPar [i, j] g) (.Assign [.Tuple [.Name x px, .Name y py] kt pt] (.Tuple [a, b] k2 pt2) pos) :=
  PS.weak (ps_par hc hN hi hj hij hx hy ha hw hs) fun E σ H ⟨eta, M, rho, V, S, P⟩ => ⟨eta, M, rho, V, S, (P.bindE V).imp fun r1 H1 ds M1 e1 S1 P1 vs rvs => by
    split at P1
    · rename_i eta' hs
      match ds, hs with
      | [d, e], hs =>
        simp only [setAll, Option.some.injEq] at hs
        subst hs
        obtain ⟨v, w, rfl, r1', r2'⟩ := rvs.two
        exact ⟨v, w, rfl, P1 r1 H1 _ (Ext.refl _ _) S1 (((V.mono e1).set i r1').set j r2')⟩
    · exact P1.elim⟩
theorem sv_par3 {i j l : Nat} {x y z : Str} {a b c : Expr} {g : EvL} {px py pz pt pos : Pos} {kt k2 : Nat} {pt2 : Pos} (hc : X.calm = true) (hN : X.N.Nodup) (ha : PLv G X W g [a, b, c]) (hi : X.N[i]? = some x := by rfl) (hj : X.N[j]? = some y := by rfl) (hl : X.N[l]? = some z := by rfl)
    (hij : i ≠ j := by decide) (hil : i ≠ l := by decide) (hjl : j ≠ l := by decide)
    (hx : X.env.scope.names.lookup x = some .local := by rfl) (hy : X.env.scope.names.lookup y = some .local := by rfl) (hz : X.env.scope.names.lookup z = some .local := by rfl)
    (hw : swappedStores [.Tuple [.Name x px, .Name y py, .Name z pz] kt pt] (.Tuple [a, b, c] k2 pt2) X.env = pure (some [x, y, z]) := by rfl)
    (hs : swapsWithSole [.Tuple [.Name x px, .Name y py, .Name z pz] kt pt] (.Tuple [a, b, c] k2 pt2) pos.line X.env = pure false := by rfl) :
    PSv G X W (sPar [i, j, l] g) (.Assign [.Tuple [.Name x px, .Name y py, .Name z pz] kt pt] (.Tuple [a, b, c] k2 pt2) pos) :=
  PS.weak (ps_par3 hc hN hi hj hl hij hil hjl hx hy hz ha hw hs) fun E σ H ⟨eta, M, rho, V, S, P⟩ => ⟨eta, M, rho, V, S, (P.bindE V).imp fun r1 H1 ds M1 e1 S1 P1 vs rvs => by
    split at P1
    · rename_i eta' hs
      match ds, hs with
      | [d, e, f], hs =>
        simp only [setAll, Option.some.injEq] at hs
        subst hs
        obtain ⟨v, w, u, rfl, r1', r2', r3'⟩ := rvs.three
        exact ⟨v, w, u, rfl, P1 r1 H1 _ (Ext.refl _ _) S1 ((((V.mono e1).set i r1').set j r2').set l r3')⟩
    · exact P1.elim⟩
/-- name op= e -/
def sAug (i : Nat) (op : D → D → Store → Out D) (f : EvE) : EvS := fun eta M => match eta[i]? with
  | some (some x) => OutS.bindE ((f eta M).bind fun y M1 => op x y M1) eta fun z M2 => .nx (eta.set i (some z)) M2
  | _ => .bad
theorem sv_aug {i : Nat} {x : Str} {op : Operator} {g : D → D → Store → Out D} {r : R2} {f : EvE} {e : Expr} {pos pos' : Pos} (hN : X.N.Nodup) (ho : OpR X (inplaceOp op) r) (hs : OpS G g r) (he : PEv G X W f e) (hi : X.N[i]? = some x := by rfl)
    (hx : Loc X.env.scope x := by first | exact Or.inl rfl | exact Or.inr rfl) (hf : X.fn x = true ∨ X.env.scope.names.lookup x = some .local := by first | exact .inl rfl | exact .inr rfl) : PSv G X W (sAug i g f) (.AugAssign (.Name x pos') op e pos) :=
  PS.weak (ps_aug hN hi hx he (ti := r) ho hf) fun E σ H ⟨eta, M, rho, V, S, P⟩ => by
    unfold sAug at P
    split at P
    · rename_i d hd
      obtain ⟨v, hv, rv⟩ := V.at_ i d hd
      refine ⟨v, hv, eta, M, rho, V, S, (P.bindE V).bind.imp fun r1 H1 y M1 e1 S1 P1 w rw' => ?_⟩
      refine hs W σ r1 H1 M1 d y v w _ S1 (Rep.mono e1 _ _ rv) rw' (P1.imp fun r2 H2 z M2 e2 S2 P2 u ru => ?_)
      exact P2 r2 H2 _ (Ext.refl _ _) S2 (((V.mono e1).mono e2).set i ru)
    · exact P.elim
def sWhile (c : EvT) (b : EvS) : Nat → EvS
  | 0 => fun _ _ => .bad
  | n + 1 => fun eta M => OutS.bindE (c eta M) eta fun k M1 => if k = true then (match b eta M1 with
      | .nx eta' M' => sWhile c b n eta' M'
      | .ct eta' M' => sWhile c b n eta' M'
      | .bk eta' M' => .nx eta' M'
      | o => o) else .nx eta M1
theorem sv_while {c : EvT} {b : EvS} {e : Expr} {body : List Stmt} {pos : Pos} {n : Nat} (hp : PassesOwn (model X.prog X.w) X.A X.env X.xe) (hc : PTv G X W c e) (hb : PSsv G X W b body) : PSv G X W (sWhile c b n) (.While e body [] pos) :=
  PS.weak (ps_while hp hc hb) fun E σ H h => ⟨fun m σ H => tS G W (sWhile c b m) E σ H, ⟨n, h⟩, fun m σ H ⟨eta, M, rho, V, S, P⟩ => by
    cases m with
    | zero => exact P.elim
    | succ m =>
      simp only [sWhile] at P
      refine ⟨eta, M, rho, V, S, (P.bindE V).imp fun r1 H1 k M1 e1 S1 P1 => ?_⟩
      cases k with
      | false => exact P1 r1 H1 σ (Ext.refl _ _) S1 (V.mono e1)
      | true =>
        refine ⟨fun σ' H' => tS G W (sWhile c b m) E σ' H', fun σ' H' h' => ⟨m, Nat.lt_succ_self m, h'⟩, eta, M1, r1, V.mono e1, S1, ?_⟩
        simp only [if_true] at P1
        cases e2 : b eta M1 with
        | nx eta' M' => rw [e2] at P1; exact fun r2 H2 s2 e3 S2 V2 => ⟨eta', M', r2, V2, S2, P1.ext e3⟩
        | ct eta' M' => rw [e2] at P1; exact fun r2 H2 s2 e3 S2 V2 => ⟨eta', M', r2, V2, S2, P1.ext e3⟩
        | bk eta' M' => rw [e2] at P1; exact P1
        | rt d M' => rw [e2] at P1; exact P1
        | exc x fs eta' M' => rw [e2] at P1; exact P1
        | bad => rw [e2] at P1; exact P1⟩
/-- at turn i: none: it cannot be said; some none: it stops -/
abbrev Iter := Nat → Store → Option (Option D)
abbrev EvIt := Env → Store → Out Iter
def IterR (G : Gd) (rho : List Addr) (H : Hp) (J : Iter) (J' : It) : Prop := ∀ rho1 H1 M1 i, Ext rho H rho1 H1 → StR G.K G.T rho1 H1 M1 → match J i M1 with
  | some (some d) => J'.go i H1 ∧ ∀ x H2, J'.yld i H1 x H2 → Ext rho1 H1 rho1 H2 ∧ StR G.K G.T rho1 H2 M1 ∧ Rep G.K rho1 H2 d x
  | some none => J'.stop i H1
  | none => True
def tI (G : Gd) (W : WX) (f : EvIt) : TI := fun σ H R => ∃ eta M rho, EnvR G.K rho H eta σ ∧ StR G.K G.T rho H M ∧ Post G W σ rho H (fun rho' H' J _ => ∀ J', IterR G rho' H' J J' → R J' H') (f eta M)
def PIv (G : Gd) (X : Cx) (W : WX) (f : EvIt) (tg e : Expr) : Prop := PI X tg e (tI G W f)
theorem PI.weak {tg e : Expr} {t t' : TI} (h : PI X tg e t) (k : ∀ σ H R, t' σ H R → t σ H R) : PI X tg e t' := ⟨fun pins s σ H R I q => h.run pins s σ H R I (k σ H R q)⟩
theorem PI.or {tg e : Expr} {t t' : TI} (h : PI X tg e t) (h' : PI X tg e t') : PI X tg e (fun σ H R => t σ H R ∨ t' σ H R) := ⟨fun pins s σ H R I q => q.elim (h.run pins s σ H R I) (h'.run pins s σ H R I)⟩
def forLoop (J : Iter) (t : Tgt) (b : EvS) : Nat → Nat → EvS
  | 0, _ => fun _ _ => .bad
  | m + 1, i => fun eta M => match J i M with
    | none => .bad
    | some none => .nx eta M
    | some (some d) => (match asg M t d eta with
      | none => .bad
      | some eta1 => (match b eta1 M with
        | .nx eta' M' => forLoop J t b m (i + 1) eta' M'
        | .ct eta' M' => forLoop J t b m (i + 1) eta' M'
        | .bk eta' M' => .nx eta' M'
        | o => o))
@[irreducible] def FUEL : Nat := 20000000
def sFor (it : EvIt) (t : Tgt) (b : EvS) : EvS := fun eta M => OutS.bindE (it eta M) eta fun J M1 => forLoop J t b FUEL 0 eta M1
theorem sv_for {it : EvIt} {t : Tgt} {b : EvS} {tg iter : Expr} {body : List Stmt} {pos : Pos} (hp : PassesOwn (model X.prog X.w) X.A X.env X.xe) (hc : X.calm = true) (hi : PIv G X W it tg iter) (hg : PGv G X t tg) (hb : PSsv G X W b body)
    (hs : ∀ x, foldedSetIterable iter X.env x = pure x := by intro _; rfl) : PSv G X W (sFor it t b) (.For tg iter body [] pos) :=
  PS.weak (ps_for hp hc hi hg hb hs) fun E σ H ⟨eta, M, rho, V, S, P⟩ => by
    refine ⟨eta, M, rho, V, S, (P.bindE V).imp fun r1 H1 J M1 e1 S1 P1 J' R => ?_⟩
    refine ⟨fun i m σ H => ∃ eta M rho, Ext r1 H1 rho H ∧ EnvR G.K rho H eta σ ∧ StR G.K G.T rho H M ∧ PostS G W rho H E (forLoop J t b m i eta M), ⟨FUEL, eta, M1, r1, Ext.refl _ _, V.mono e1, S1, P1⟩, ?_⟩
    rintro i m σ H ⟨eta, M, rho, e2, V, S, P⟩
    cases m with
    | zero => exact P.elim
    | succ m =>
      simp only [forLoop] at P
      have Rj := R rho H M i e2 S
      split at P
      · exact P.elim
      · rename_i hJ
        rw [hJ] at Rj
        exact .inl ⟨Rj, P rho H σ (Ext.refl _ _) S V⟩
      · rename_i d hJ
        rw [hJ] at Rj
        obtain ⟨go, yl⟩ := Rj
        refine .inr ⟨go, fun σ' H' => ∃ eta M rho, Ext r1 H1 rho H' ∧ EnvR G.K rho H' eta σ' ∧ StR G.K G.T rho H' M ∧ PostS G W rho H' E (forLoop J t b m (i + 1) eta M), fun σ' H' h' => ⟨m, Nat.lt_succ_self m, h'⟩, fun x H' hy => ?_⟩
        obtain ⟨e3, S3, rx⟩ := yl x H' hy
        split at P
        · exact P.elim
        · rename_i eta1 ha
          refine ⟨eta, M, rho, d, eta1, V.mono e3, S3, rx, ha, fun σ2 V2 _ => ⟨eta1, M, rho, V2, S3, ?_⟩⟩
          cases e4 : b eta1 M with
          | nx eta' M' => rw [e4] at P; exact fun r2 H2 s2 e5 S2 V2 => ⟨eta', M', r2, (e2.trans e3).trans e5, V2, S2, (P.ext e3).ext e5⟩
          | ct eta' M' => rw [e4] at P; exact fun r2 H2 s2 e5 S2 V2 => ⟨eta', M', r2, (e2.trans e3).trans e5, V2, S2, (P.ext e3).ext e5⟩
          | bk eta' M' => rw [e4] at P; exact P.ext e3
          | rt d M' => rw [e4] at P; exact P.ext e3
          | exc x fs eta' M' => rw [e4] at P; exact P.ext e3
          | bad => rw [e4] at P; exact P
end
end Ev
namespace PySem
open Sem (wp)
set_option maxHeartbeats 1000000 in
/-- enumerate(v) of one argument, v anything whose iterator is known -/
theorem ev_enum_made {val : Value} {ob : Obj} {Hv : Heap → Prop} (B : Begins val ob Hv) :
    Meets (Builtin.«enumerate.__new__» ⟨[.type "enumerate", val], []⟩) (fun _ R st => Hv st.heap ∧
      R (.ok (.ret (.ref (st.heap.push ob).objs.size))) { st with heap := (st.heap.push ob).push { cls := .type "enumerate", data := .fields #[.none, .bool false, .ref st.heap.objs.size, rawInt 0, .none, .none] } }) :=
  .of_wp fun pr wd Ar Re st hh => by
    obtain ⟨h0, g0, d0, k0, o0⟩ := st
    obtain ⟨hv, hh⟩ := hh
    have sub0 := sub_enumerate
    have it0 : ∀ {Ay : Around} {Ey : Value → Shared → Prop} {Qy : Value → Shared → Prop}, Qy (.ref h0.objs.size) ⟨h0.push ob, g0, d0, k0, o0⟩ → wpAny (model pr wd) Ay (pyIter val) Qy Ey ⟨h0, g0, d0, k0, o0⟩ :=
      fun z => B.iter pr wd _ _ ⟨h0, g0, d0, k0, o0⟩ _ hv z
    wp_walk using it0
    refine wpAny_stack_any fun stk => wpAny_pure ?_
    split
    · rename_i cc _ _ _ _ _
      cases (cc == Value.type "enumerate")
      · wp_walk using it0
        exact ⟨_, rfl, hh⟩
      · wp_walk using it0
        exact ⟨_, rfl, hh⟩
    · wp_walk using it0
      exact ⟨_, rfl, hh⟩
theorem ev_enum_call {pr : Program} {wd : World} {Ar : Around} {Ex : Value → Shared → Prop} {st : Shared} {val : Value} {ob : Obj} {Hv : Heap → Prop} {Qv : Value → Shared → Prop} (B : Begins val ob Hv) (hv : Hv st.heap)
    (k : ∀ h', IsEnum h' (st.heap.objs.size + 1) st.heap.objs.size 0 .none → h'.get? st.heap.objs.size = some ob → (∀ b o, st.heap.get? b = some o → h'.get? b = some o) → Qv (.ref (st.heap.objs.size + 1)) { st with heap := h' }) :
    wpAny (model pr wd) Ar (call (.type "enumerate") [val]) Qv Ex st := by
  refine callType_new F.called_enumerate (by decide) (F.typeCall_enumerate_1 _) (F.newCall_enumerate_1 _) (fun obj => F.args_object_init_2 obj _) F.entry_enumerate_new (ev_enum_made B) ⟨hv, ?_⟩
  have sz : (st.heap.push ob).objs.size = st.heap.objs.size + 1 := Heap.size_push ..
  show _ ∧ _
  rw [sz]
  have en : IsEnum ((st.heap.push ob).push { cls := .type "enumerate", data := .fields #[.none, .bool false, .ref st.heap.objs.size, rawInt 0, .none, .none] }) (st.heap.objs.size + 1) st.heap.objs.size 0 .none := by
    have z := Heap.get?_push_size (st.heap.push ob) (o := { cls := .type "enumerate", data := .fields #[.none, .bool false, .ref st.heap.objs.size, rawInt 0, .none, .none] }) rfl
    rw [sz] at z
    exact z
  exact ⟨⟨_, en, rfl⟩, k _ en (Heap.get?_push_of_some _ (Heap.get?_push_size _ B.free)) fun b o z => Heap.get?_push_of_some _ (Heap.get?_push_of_some _ z)⟩
end PySem
namespace Ev
open PySem PySem.Spec PyProof.Rows L2
theorem ty_ne {a b : String} (h : a ≠ b) {P : Prop} (e : Value.type a = Value.type b) : P := by
  injection e with e
  exact absurd e h
/-- the n members of the tuple at a, each in a new pair with its number -/
def IteT (K : PySem.W.Frag) (a : Addr) (n : Nat) : It where
  go := fun i H => i < n ∧ ∃ (xs : List V) (x : V), SqT K H a xs ∧ xs[i]? = some x ∧ xs.length = n
  yld := fun i H v H' => ∃ T x, v = .ref T ∧ H T = none ∧ H' = upd H T (.tup [.int (i : Nat), x]) ∧ ∀ xs, SqT K H a xs → xs[i]? = some x
  stop := fun i H => n ≤ i ∧ ∃ xs : List V, SqT K H a xs ∧ xs.length = n
theorem turn_enumT {P : Program} {w : World} {K : PySem.W.Frag} {elts : List Expr} {kk : Nat} {tpos : Pos} (a e it : Addr) (n : Nat) :
    Turn P w K (.Tuple elts kk tpos) (IteT K a n) [e, it] e (fun i h => ((∃ old, IsEnum h e it ((i : Nat) : Int) old) ∧ h.IsTupleIter it a i ∧ e ≠ it) ∧ i ≤ n) where
  mem := List.mem_cons_self
  obj := by
    rintro i h ⟨⟨⟨old, he⟩, ⟨o, ho, hc, hd⟩, _⟩, _⟩ b hb
    rcases List.mem_cons.mp hb with z | z
    · subst z; exact ⟨_, he, fun v q => nomatch q⟩
    · have z' := List.mem_singleton.mp z
      subst z'
      exact ⟨o, ho, fun v q => by rw [hd] at q; cases q⟩
  keep := by
    rintro i h h' ⟨⟨⟨old, he⟩, hi, hne⟩, hn⟩ k
    exact ⟨⟨⟨old, k e (by simp) _ he⟩, hi.at fun o q => k it (by simp) o q, hne⟩, hn⟩
  item := by
    intro X hP hw hK hc i pins s σ H Ex I hf hst hgo
    subst hP hw hK
    obtain ⟨⟨⟨old, he⟩, hit, hne⟩, hin⟩ := hst
    obtain ⟨hi, xs, x, hq, hx, hln⟩ := hgo
    obtain ⟨its, rv, tp, hz⟩ := I.tuple hq
    obtain ⟨u, hu, ru⟩ := rv.get hx
    have lte : e < s.heap.objs.size := Heap.lt_size he
    have lti : it < s.heap.objs.size := by obtain ⟨_, q, _⟩ := hit; exact Heap.lt_size q
    have nea : a ≠ e := fun z => by
      subst z
      obtain ⟨o, q, c, _⟩ := tp
      have he' : s.heap.get? a = some _ := he
      rw [he'] at q; cases q
      exact ty_ne (by decide) c
    have nia : a ≠ it := fun z => by
      subst z
      obtain ⟨o, q, c, _⟩ := tp
      obtain ⟨o2, q2, c2, _⟩ := hit
      rw [q] at q2; cases q2
      rw [c] at c2; exact ty_ne (by decide) c2
    have hlt : i < its.toArray.size := by
      have := (List.getElem?_eq_some_iff.mp hu).1
      simpa using this
    have hh : X.A.in1.handled = none := I.ok.hd hc
    refine wpAny_pyNext_enum_itemD (fp := [it, a]) (St := fun i h => h.IsTupleIter it a i ∧ h.IsTuple a its.toArray) (Draws.tuple hh it a nia its.toArray) he ⟨hit, tp⟩ hlt hne (by simp [hne, Ne.symm nea]) fun y h1 tk hy ho hit1 hT hsz hk => ?_
    have ey : y = u := by
      have : its.toArray[i]? = some u := by simpa using hu
      rw [this] at hy; exact (Option.some.inj hy).symm
    subst ey
    refine ⟨_, rfl, wpAny_letOwnedTupleGo_enum (s := { s with heap := h1, toks := tk + 1 }) ho fun h2 he2 sb => ?_⟩
    have hT2 : h2.get? s.heap.objs.size = some { cls := .type "tuple", data := .seq #[.int i tk, y] } := (sb.2 _ (Nat.ne_of_gt lte)).trans hT
    have new : ObjOk X.prog X.w (upd H s.heap.objs.size (.tup [.int (i : Nat), x])) h2 s.heap.objs.size (.tup [.int (i : Nat), x]) :=
      ⟨by show 2 ≤ sizeLine; decide, [.int i tk, y], Paired.cons ⟨_, rfl⟩ (Paired.cons ru Paired.nil), ⟨_, hT2, rfl, _, rfl⟩⟩
    have I1 : Inv X pins σ (upd H s.heap.objs.size (.tup [.int (i : Nat), x])) { s with heap := h2, toks := tk + 1 } :=
      I.turnedNew (ch := [e, it]) (fun b ob hb q => (sb.2 b (fun z => hb (by simp [z]))).trans (hk b ob (fun z => hb (by simp [z])) (fun z => hb (by simp [z])) q)) hf (Nat.le_refl _) new
    refine ⟨.ref s.heap.objs.size, _, I1, rfl, ⟨_, x, rfl, I.hok.fresh (Nat.le_refl _), rfl, fun ys hy => by rw [I.tuple_inj hy hq]; exact hx⟩, ⟨⟨⟨y, ?_⟩, hit1.1.at fun o q => (sb.2 it (Ne.symm hne)).trans q, hne⟩, hi⟩, fun b hb => ?_⟩
    · have e1 : ((i + 1 : Nat) : Int) = (i : Int) + 1 := by omega
      rw [e1]; exact he2
    · have hb' : b < s.heap.objs.size := by
        rcases List.mem_cons.mp hb with z | z
        · rw [z]; exact lte
        · rw [List.mem_singleton.mp z]; exact lti
      rw [upd_ne (Nat.ne_of_lt hb')]
      exact (hf b hb).1
  done := by
    intro X hP hw hK hc i pins s σ H Ex I hf hst hgo
    subst hP hw hK
    obtain ⟨⟨⟨old, he⟩, hit, hne⟩, hin⟩ := hst
    obtain ⟨hi, xs, hq, hx⟩ := hgo
    obtain ⟨its, rv, tp, hz⟩ := I.tuple hq
    have nia : a ≠ it := fun z => by
      subst z
      obtain ⟨o, q, c, _⟩ := tp
      obtain ⟨o2, q2, c2, _⟩ := hit
      rw [q] at q2; cases q2
      rw [c] at c2; exact ty_ne (by decide) c2
    obtain ⟨f0, f1, f2, f3, f4, f5⟩ := hf it (by simp)
    have hl := rv.length
    have en : i = its.toArray.size := by simp; omega
    have hh : X.A.in1.handled = none := I.ok.hd hc
    exact wpAny_pyNext_enum_endD (St := fun i h => h.IsTupleIter it a i ∧ h.IsTuple a its.toArray) (Draws.tuple hh it a nia its.toArray) he ⟨by rw [← en]; exact hit, tp⟩ fun h' eb => ⟨rfl, I.turned (t' := s.toks) (fun b o hb q => eb b o hb q) f0 f1 f3 f4 f5⟩
  self := fun A i s Q E st h => let ⟨⟨⟨_, he⟩, _⟩, _⟩ := st; wpAny_pyIter_enum he h
def iEnumT (K : PySem.W.Frag) (ta : TA) : TI := fun σ H R => ta σ H fun vs H1 => ∃ a xs, vs = [.ref a] ∧ SqT K H1 a xs ∧ R (IteT K a xs.length) H1
theorem pi_enumT {X : Cx} {e : Expr} {ta : TA} {p pos tpos : Pos} {elts : List Expr} {kk : Nat} (hg : Gl X "enumerate") (hm : X.mg "enumerate" = none) (ha : PA X [e] ta) (hs : starEach [e] X.env = [(false, eval e X.env)]) :
    PI X (.Tuple elts kk tpos) (.Call (.Name "enumerate" p) [e] [] pos) (iEnumT X.K ta) := by
  refine ⟨fun pins s σ H R I h => Call_ (ld_blt I hg hm boot_enumerate (PyProof.Rows.callWith_type1 (thn (ha.run pos pins s σ H _ I h) fun us s1 ⟨vs, H1, I1, r1, q1⟩ => ?_) hs rfl))⟩
  obtain ⟨a, xs, ex, hq, q⟩ := q1
  subst ex
  obtain ⟨u, rfl, ru⟩ := vals1 r1
  obtain rfl : u = Value.ref a := ru
  obtain ⟨its, rv, tp, hz⟩ := I1.tuple hq
  refine ev_enum_call (begins_tuple a its.toArray) tp fun h1 he hit hk => wpAny_pyIter_enum he ?_
  have I2 : Inv X pins σ H1 { s1 with heap := h1 } := I1.kept (t' := s1.toks) hk
  refine ⟨s1.heap.objs.size + 1, [s1.heap.objs.size + 1, s1.heap.objs.size], _, _, H1, rfl, I2, turn_enumT a (s1.heap.objs.size + 1) s1.heap.objs.size xs.length, ⟨⟨⟨.none, he⟩, ⟨_, hit, rfl, rfl⟩, Nat.succ_ne_self _⟩, Nat.zero_le _⟩, fun b hb => ?_, q⟩
  have up : s1.heap.objs.size ≤ b := by
    rcases List.mem_cons.mp hb with z | z
    · rw [z]; exact Nat.le_succ _
    · rw [List.mem_singleton.mp z]; exact Nat.le_refl _
  exact I1.fpOk up (I1.hok.fresh up)
end Ev
namespace Ev
open PySem L2
def liveAt (n : Nat) (M : Store) : Option (List D) := match M[n]? with
  | some (.lst ds) => some ds
  | some (.frz ds) => some ds
  | _ => none
def itVals (ds : List D) : Iter := fun i _ => some ds[i]?
def itLive (n : Nat) : Iter := fun i M => (liveAt n M).map fun ds => ds[i]?
def itStr (z : Str) : Iter := fun i _ => some (z.cps[i]?.map fun c => .str ⟨#[c]⟩)
def itD (d : D) (M : Store) : Out Iter := match d with
  | .tup ds => .ok (itVals ds) M
  | .ktp ds => .ok (itVals ds) M
  | .str z => .ok (itStr z) M
  | .ref n => (match liveAt n M with
    | some _ => .ok (itLive n) M
    | none => .bad)
  | _ => .bad
def itE (f : EvE) : EvIt := fun eta M => (f eta M).bind itD
def itRg (lo : Int) (n : Nat) : Iter := fun i _ => some (if i < n then some (.int (lo + i)) else none)
def itRange1 (g : EvL) : EvIt := fun eta M => (g eta M).bind fun ds M1 => match ds with
  | [.int j] => if -(2 ^ 62) ≤ j ∧ j < 2 ^ 62 then .ok (itRg 0 j.toNat) M1 else .bad
  | _ => .bad
def itRange2 (g : EvL) : EvIt := fun eta M => (g eta M).bind fun ds M1 => match ds with
  | [.int i, .int j] => if -(2 ^ 62) ≤ i ∧ i < 2 ^ 62 ∧ -(2 ^ 62) ≤ j ∧ j < 2 ^ 62 then .ok (itRg i (j - i).toNat) M1 else .bad
  | _ => .bad
def itRgC (lo c : Int) (n : Nat) : Iter := fun i _ => some (if i < n then some (.int (lo + i * c)) else none)
def itRange3 (g : EvL) : EvIt := fun eta M => (g eta M).bind fun ds M1 => match ds with
  | [.int i, .int j, .int c] => if c ≠ 0 ∧ c.natAbs < 1073741824 ∧ Builtin.Range.small i j c = true ∧ 0 ≤ Builtin.Range.rangeSize i j c then .ok (itRgC i c (Builtin.Range.rangeSize i j c).toNat) M1 else .bad
  | _ => .bad
def itEnumV (ds : List D) : Iter := fun i _ => some (ds[i]?.map fun d => .tup [.int i, d])
def itEnumL (n : Nat) : Iter := fun i M => (liveAt n M).map fun ds => ds[i]?.map fun d => .tup [.int i, d]
def itEnum (g : EvL) : EvIt := fun eta M => (g eta M).bind fun ds M1 => match ds with
  | [.tup es] => .ok (itEnumV es) M1
  | [.ref n] => (match liveAt n M1 with
    | some _ => .ok (itEnumL n) M1
    | none => .bad)
  | _ => .bad
section
variable {G : Gd} {X : Cx} {W : WX} {rho : List Addr} {H : Hp} {M : Store}
theorem live_rep {T : Tt} {K : PySem.W.Frag} (S : StR K T rho H M) {n : Nat} {ds : List D} {a : Addr} (h : liveAt n M = some ds) (ha : rho[n]? = some a) : ∃ vs, SqL K H a vs ∧ Reps K rho H ds vs := by
  unfold liveAt at h
  split at h
  · rename_i es hm
    simp only [Option.some.injEq] at h; subst h
    obtain ⟨vs, g1, g2⟩ := S.at_ _ a _ ha hm
    exact ⟨vs, SqL.of g1, g2⟩
  · rename_i es hm
    simp only [Option.some.injEq] at h; subst h
    obtain ⟨vs, g1, g2⟩ := S.at_ _ a _ ha hm
    exact ⟨vs, g1.sq, g2⟩
  · cases h
theorem Reps.getN {K : PySem.W.Frag} {ds : List D} {vs : List V} {i : Nat} (r : Reps K rho H ds vs) (h : ds[i]? = none) : vs.length ≤ i := by
  rw [r.length]; exact List.getElem?_eq_none_iff.mp h
theorem iter_vals {ds : List D} {a : Addr} {vs : List V} (h1 : SqT G.K H a vs) (h2 : Reps G.K rho H ds vs) : IterR G rho H (itVals ds) (Itt G.K a) := fun r1 H1 M1 i e1 S1 => by
  have q := e1.sq h1
  have rs := Reps.mono e1 _ _ h2
  unfold itVals
  cases e : ds[i]? with
  | none => exact ⟨vs, q, rs.getN e⟩
  | some d =>
    obtain ⟨v, hv, rv⟩ := rs.get e
    refine ⟨⟨vs, v, q, hv⟩, fun x H2 ⟨e2, hx⟩ => ?_⟩
    subst e2
    have := hx vs q
    rw [hv] at this; cases this
    exact ⟨Ext.refl _ _, S1, rv⟩
theorem iter_live {n : Nat} {a : Addr} (ha : rho[n]? = some a) : IterR G rho H (itLive n) (Itl G.K a) := fun r1 H1 M1 i e1 S1 => by
  unfold itLive
  cases e : liveAt n M1 with
  | none => exact True.intro
  | some ds =>
    obtain ⟨vs, q, rs⟩ := live_rep S1 e (e1.get ha)
    simp only [Option.map_some]
    cases e2 : ds[i]? with
    | none => exact ⟨vs, q, rs.getN e2⟩
    | some d =>
      obtain ⟨v, hv, rv⟩ := rs.get e2
      refine ⟨⟨vs, v, q, hv⟩, fun x H2 ⟨e3, hx⟩ => ?_⟩
      subst e3
      have := hx vs q
      rw [hv] at this; cases this
      exact ⟨Ext.refl _ _, S1, rv⟩
theorem iter_str {z : Str} : IterR G rho H (itStr z) (Its z) := fun r1 H1 M1 i e1 S1 => by
  unfold itStr
  cases e : z.cps[i]? with
  | none => exact Array.getElem?_eq_none_iff.mp e
  | some c =>
    simp only [Option.map_some]
    refine ⟨(Array.getElem?_eq_some_iff.mp e).1, fun x H2 ⟨e2, c', hc, hx⟩ => ?_⟩
    subst e2
    rw [e] at hc; cases hc
    exact ⟨Ext.refl _ _, S1, by subst hx; simp [Rep]⟩
theorem iter_rg {lo : Int} {n : Nat} : IterR G rho H (itRg lo n) (Itr lo n) := fun r1 H1 M1 i e1 S1 => by
  unfold itRg
  by_cases h : i < n
  · simp only [if_pos h]
    refine ⟨h, fun x H2 ⟨e2, hx⟩ => ?_⟩
    subst e2
    exact ⟨Ext.refl _ _, S1, by subst hx; simp [Rep]⟩
  · simp only [if_neg h]
    exact Nat.le_of_not_lt h
theorem iter_rgC {lo c : Int} {n : Nat} : IterR G rho H (itRgC lo c n) (Itc lo c n) := fun r1 H1 M1 i e1 S1 => by
  unfold itRgC
  by_cases h : i < n
  · simp only [if_pos h]
    refine ⟨h, fun x H2 ⟨e2, hx⟩ => ?_⟩
    subst e2
    exact ⟨Ext.refl _ _, S1, by subst hx; simp [Rep]⟩
  · simp only [if_neg h]
    exact Nat.le_of_not_lt h
theorem pair_new {K : PySem.W.Frag} {T : Tt} {i : Nat} {d : D} {v : V} {p : Addr} (S : StR K T rho H M) (hp : H p = none) (rv : Rep K rho H d v) :
    Ext rho H rho (upd H p (.tup [.int (i : Nat), v])) ∧ StR K T rho (upd H p (.tup [.int (i : Nat), v])) M ∧ Rep K rho (upd H p (.tup [.int (i : Nat), v])) (.tup [.int i, d]) (.ref p) := by
  have E : Ext rho H rho (upd H p (.tup [.int (i : Nat), v])) := Ext.laid hp
  refine ⟨E, S.laid hp, ?_⟩
  simp only [Rep]
  exact ⟨p, _, rfl, upd_same, Reps.cons (by simp [Rep]) (Reps.cons (Rep.mono E _ _ rv) Reps.nil)⟩
theorem iter_enumV {ds : List D} {a : Addr} {vs : List V} (h1 : SqT G.K H a vs) (h2 : Reps G.K rho H ds vs) : IterR G rho H (itEnumV ds) (IteT G.K a vs.length) := fun r1 H1 M1 i e1 S1 => by
  have q := e1.sq h1
  have rs := Reps.mono e1 _ _ h2
  unfold itEnumV
  cases e : ds[i]? with
  | none => exact ⟨rs.getN e, vs, q, rfl⟩
  | some d =>
    obtain ⟨v, hv, rv⟩ := rs.get e
    simp only [Option.map_some]
    refine ⟨⟨(List.getElem?_eq_some_iff.mp hv).1, vs, v, q, hv, rfl⟩, fun x H2 ⟨p, y, hx, hp, e2, hy⟩ => ?_⟩
    subst e2; subst hx
    have := hy vs q
    rw [hv] at this; cases this
    exact pair_new S1 hp rv
theorem iter_enumL {n : Nat} {a : Addr} (ha : rho[n]? = some a) : IterR G rho H (itEnumL n) (Ite G.K a) := fun r1 H1 M1 i e1 S1 => by
  unfold itEnumL
  cases e : liveAt n M1 with
  | none => exact True.intro
  | some ds =>
    obtain ⟨vs, q, rs⟩ := live_rep S1 e (e1.get ha)
    simp only [Option.map_some]
    cases e2 : ds[i]? with
    | none => exact ⟨vs, q, rs.getN e2⟩
    | some d =>
      obtain ⟨v, hv, rv⟩ := rs.get e2
      simp only [Option.map_some]
      refine ⟨⟨vs, v, q, hv⟩, fun x H2 ⟨p, y, hx, hp, e3, hy⟩ => ?_⟩
      subst e3; subst hx
      have := hy vs q
      rw [hv] at this; cases this
      exact pair_new S1 hp rv
theorem iv_val {f : EvE} {tg e : Expr} (hK : X.K = G.K) (he : PEv G X W f e) : PIv G X W (itE f) tg e :=
  PI.weak (PI.or (PI.or (pi_list he) (pi_tup he)) (pi_str he)) fun σ H R ⟨eta, M, rho, V, S, P⟩ => by
    unfold itE at P
    cases e1 : f eta M with
    | bad => rw [e1] at P; exact P.elim
    | exc x fs M1 => rw [e1] at P; exact .inl (.inl ⟨eta, M, rho, V, S, by rw [e1]; exact P⟩)
    | ok d M1 =>
      rw [e1] at P
      have P1 : Post G W σ rho H (fun rho' H' J _ => ∀ J', IterR G rho' H' J J' → R J' H') (itD d M1) := P
      cases d <;> simp only [itD] at P1 <;> try exact P1.elim
      · refine .inr ⟨eta, M, rho, V, S, ?_⟩
        rw [e1]
        exact fun r1 H1 e1 S1 v rv => ⟨_, rep_str rv, P1 r1 H1 e1 S1 _ iter_str⟩
      · refine .inl (.inr ⟨eta, M, rho, V, S, ?_⟩)
        rw [e1]
        exact fun r1 H1 e1 S1 v rv => by
          obtain ⟨a, vs, rfl, h1, h2⟩ := rep_tup rv
          rw [hK]
          exact ⟨a, rfl, ⟨vs, SqT.of h1⟩, P1 r1 H1 e1 S1 _ (iter_vals (SqT.of h1) h2)⟩
      · split at P1
        · rename_i ds hl
          refine .inl (.inl ⟨eta, M, rho, V, S, ?_⟩)
          rw [e1]
          exact fun r1 H1 e1 S1 v rv => by
            obtain ⟨a, rfl, ha⟩ := rep_ref rv
            obtain ⟨vs, q, _⟩ := live_rep S1 hl ha
            rw [hK]
            exact ⟨a, rfl, ⟨vs, q⟩, P1 r1 H1 e1 S1 _ (iter_live ha)⟩
        · exact P1.elim
      · refine .inl (.inr ⟨eta, M, rho, V, S, ?_⟩)
        rw [e1]
        exact fun r1 H1 e1 S1 v rv => by
          have rv' := rv
          simp only [Rep] at rv'
          obtain ⟨a, vs, rfl, h1, h2⟩ := rv'
          rw [hK]
          exact ⟨a, rfl, ⟨vs, h1⟩, P1 r1 H1 e1 S1 _ (iter_vals h1 h2)⟩
theorem iv_range1 {g : EvL} {tg a : Expr} {p pos : Pos} (hg : Gl X "range") (hm : X.mg "range" = none) (ha : PLv G X W g [a]) (hs : starEach [a] X.env = [(false, eval a X.env)] := by rfl) : PIv G X W (itRange1 g) tg (.Call (.Name "range" p) [a] [] pos) :=
  PI.weak (pi_range1 hg hm ha hs) fun σ H R ⟨eta, M, rho, V, S, P⟩ => ⟨eta, M, rho, V, S, P.bind.imp fun r1 H1 ds M1 e1 S1 P1 vs rvs => by
    match ds, P1 with
    | [.int j], P1 =>
      simp only at P1
      split at P1
      · rename_i h
        obtain ⟨v, rfl, rv⟩ := rvs.one
        exact ⟨j, by rw [rep_int rv], h.1, h.2, P1.now S1 _ iter_rg⟩
      · exact P1.elim⟩
theorem iv_range2 {g : EvL} {tg a b : Expr} {p pos : Pos} (hg : Gl X "range") (hm : X.mg "range" = none) (ha : PLv G X W g [a, b]) (hs : starEach [a, b] X.env = [(false, eval a X.env), (false, eval b X.env)] := by rfl) (hs2 : starEach [b] X.env = [(false, eval b X.env)] := by rfl) :
    PIv G X W (itRange2 g) tg (.Call (.Name "range" p) [a, b] [] pos) :=
  PI.weak (pi_range2 hg hm ha hs hs2) fun σ H R ⟨eta, M, rho, V, S, P⟩ => ⟨eta, M, rho, V, S, P.bind.imp fun r1 H1 ds M1 e1 S1 P1 vs rvs => by
    match ds, P1 with
    | [.int i, .int j], P1 =>
      simp only at P1
      split at P1
      · rename_i h
        obtain ⟨v, w, rfl, rv, rw'⟩ := rvs.two
        exact ⟨i, j, by rw [rep_int rv, rep_int rw'], h, P1.now S1 _ iter_rg⟩
      · exact P1.elim⟩
theorem iv_range3 {g : EvL} {tg a b c : Expr} {p pos : Pos} (hg : Gl X "range") (hm : X.mg "range" = none) (ha : PLv G X W g [a, b, c])
    (hs : starEach [a, b, c] X.env = (false, eval a X.env) :: starEach [b, c] X.env := by rfl) (hpl : (backTo pos (starEach [b, c] X.env)).any (·.1) = false := by rfl) : PIv G X W (itRange3 g) tg (.Call (.Name "range" p) [a, b, c] [] pos) :=
  PI.weak (pi_range3 hg hm ha hs hpl) fun σ H R ⟨eta, M, rho, V, S, P⟩ => ⟨eta, M, rho, V, S, P.bind.imp fun r1 H1 ds M1 e1 S1 P1 vs rvs => by
    match ds, P1 with
    | [.int i, .int j, .int c], P1 =>
      simp only at P1
      split at P1
      · rename_i h
        obtain ⟨v, w, u, rfl, rv, rw', ru⟩ := rvs.three
        exact ⟨i, j, c, _, by rw [rep_int rv, rep_int rw', rep_int ru], ⟨h.1, h.2.1, h.2.2.1, (Int.toNat_of_nonneg h.2.2.2).symm⟩, P1.now S1 _ iter_rgC⟩
      · exact P1.elim⟩
theorem iv_enum {g : EvL} {e : Expr} {p pos tpos : Pos} {elts : List Expr} {kk : Nat} (hK : X.K = G.K) (hg : Gl X "enumerate") (hm : X.mg "enumerate" = none) (ha : PLv G X W g [e]) (hs : starEach [e] X.env = [(false, eval e X.env)] := by rfl) :
    PIv G X W (itEnum g) (.Tuple elts kk tpos) (.Call (.Name "enumerate" p) [e] [] pos) :=
  PI.weak (PI.or (pi_enum hg hm ha hs) (pi_enumT hg hm ha hs)) fun σ H R ⟨eta, M, rho, V, S, P⟩ => by
    unfold itEnum at P
    cases e1 : g eta M with
    | bad => rw [e1] at P; exact P.elim
    | exc x fs M1 => rw [e1] at P; exact .inl ⟨eta, M, rho, V, S, by rw [e1]; exact P⟩
    | ok ds M1 =>
      rw [e1] at P
      simp only [Out.bind] at P
      match ds, P with
      | [.tup es], P =>
        refine .inr ⟨eta, M, rho, V, S, ?_⟩
        rw [e1]
        exact fun r1 H1 e1 S1 vs rvs => by
          obtain ⟨v, rfl, rv⟩ := rvs.one
          obtain ⟨a, vs, rfl, h1, h2⟩ := rep_tup rv
          rw [hK]
          exact ⟨a, vs, rfl, SqT.of h1, P r1 H1 e1 S1 _ (iter_enumV (SqT.of h1) h2)⟩
      | [.ref n], P =>
        simp only at P
        split at P
        · rename_i ds hl
          refine .inl ⟨eta, M, rho, V, S, ?_⟩
          rw [e1]
          exact fun r1 H1 e1 S1 vs rvs => by
            obtain ⟨v, rfl, rv⟩ := rvs.one
            obtain ⟨a, rfl, ha⟩ := rep_ref rv
            obtain ⟨vs, q, _⟩ := live_rep S1 hl ha
            rw [hK]
            exact ⟨a, vs, rfl, q, P r1 H1 e1 S1 _ (iter_enumL ha)⟩
        · exact P.elim
abbrev Wno : WX := fun _ _ _ _ => False
/-- the block lets nothing out -/
def noX {α : Type} (o : Out α) : Out α := match o with
  | .exc _ _ _ => .bad
  | o => o
def wipeE (eta : Env) : List Nat → Env
  | [] => eta
  | v :: vs => (wipeE eta vs).set v none
def tYesE : EvT := fun _ M => .ok true M
/-- one turn's end: the member is put to the list at n -/
def putAt (n : Nat) (d : D) (M : Store) : Option Store := match M[n]? with
  | some (.lst acc) => if acc.length < cap then some (M.set n (.lst (acc ++ [d]))) else none
  | _ => none
def lcLoop (J : Iter) (t : Tgt) (vs : List Nat) (c : EvT) (f : EvE) (eta : Env) (n : Nat) : Nat → Nat → Store → Out D
  | 0, _, _ => .bad
  | m + 1, i, M => match J i M with
    | none => .bad
    | some none => .ok (.ref n) M
    | some (some d) => (match asg M t d (wipeE eta vs) with
      | none => .bad
      | some eta1 => (noX (c eta1 M)).bind fun b M2 => if b = true then (noX (f eta1 M2)).bind fun y M3 => (match putAt n y M3 with
          | none => .bad
          | some M4 => lcLoop J t vs c f eta n m (i + 1) M4) else lcLoop J t vs c f eta n m (i + 1) M2)
def eLc (it : EvIt) (t : Tgt) (vs : List Nat) (c : EvT) (f : EvE) : EvE := fun eta M => (it eta M).bind fun J M1 => lcLoop J t vs c f eta M1.length FUEL 0 (M1 ++ [.lst []])
theorem noX_post {α : Type} {σ τ : St} {Good : Kont α} {W' : WX} {o : Out α} (h : Post G W σ rho H Good (noX o)) : Post G W' τ rho H Good o := by
  cases o with
  | ok a M => exact h
  | exc x fs M => exact h.elim
  | bad => exact h
theorem wipeE_len (eta : Env) : ∀ vs, (wipeE eta vs).length = eta.length
  | [] => rfl
  | v :: vs => by simp [wipeE, wipeE_len eta vs]
theorem EnvR.wipe {K : PySem.W.Frag} {eta : Env} {σ : St} (V : EnvR K rho H eta σ) : ∀ vs, EnvR K rho H (wipeE eta vs) (L2.wipe σ vs)
  | [] => V
  | v :: vs => by
    have ih := EnvR.wipe V vs
    refine ⟨by simp [wipeE, wipeE_len, wipe_length, V.len], fun i d h => ?_⟩
    simp only [wipeE] at h
    by_cases hi : i = v
    · subst hi
      have hl : i < (wipeE eta vs).length := by
        have := (List.getElem?_eq_some_iff.mp h).1
        simpa using this
      rw [List.getElem?_set_self hl] at h
      cases h
    · rw [List.getElem?_set_ne (Ne.symm hi)] at h
      obtain ⟨w, h1, h2⟩ := ih.at_ i d h
      exact ⟨w, by simp only [L2.wipe]; rw [List.getElem?_set_ne (Ne.symm hi)]; exact h1, h2⟩
theorem putAt_rep {T : Tt} {K : PySem.W.Frag} (S : StR K T rho H M) {n : Nat} {d : D} {v : V} {M4 : Store} {a : Addr} (h : putAt n d M = some M4) (ha : rho[n]? = some a) (rv : Rep K rho H d v) :
    ∃ acc, H a = some (.lst acc) ∧ acc.length < sizeLine ∧ Ext rho H rho (upd H a (.lst (acc ++ [v]))) ∧ StR K T rho (upd H a (.lst (acc ++ [v]))) M4 := by
  unfold putAt at h
  split at h
  · rename_i acc hm
    split at h
    · rename_i hl
      simp only [Option.some.injEq] at h
      subst h
      obtain ⟨vs, g1, g2⟩ := S.at_ _ a _ ha hm
      have E : Ext rho H rho (upd H a (.lst (vs ++ [v]))) := Ext.write (by rw [g1]; trivial)
      exact ⟨vs, g1, by rw [g2.length, ← cap_eq]; exact hl, E, S.write ha hm rfl rfl ⟨_, upd_same, (Reps.mono E _ _ g2).append (Reps.cons (Rep.mono E _ _ rv) Reps.nil)⟩⟩
    · cases h
  · cases h
def PTsv (G : Gd) (X : Cx) (f : EvT) (cs : List Expr) : Prop := PTs X cs (tT G Wno f)
theorem PTs.weak {cs : List Expr} {t t' : TT} (h : PTs X cs t) (k : ∀ σ H Q, t' σ H Q → t σ H Q) : PTs X cs t' := ⟨fun pins s σ H Q I q => h.run pins s σ H Q I (k σ H Q q)⟩
theorem tsv_nil : PTsv G X tYesE [] := PTs.weak pts_nil fun σ H Q ⟨eta, M, rho, V, S, P⟩ => P.now S
theorem tsv_one {f : EvT} {c : Expr} (h : PTv G X Wno f c) : PTsv G X f [c] := pts_one h
theorem lc_sound {it : EvIt} {t : Tgt} {vs : List Nat} {c : EvT} {f : EvE} (hsl : ∀ i ∈ t.slots, i ∈ vs) {σ : St} {Q : VK} (h : tE G W (eLc it t vs c f) σ H Q) :
    tLc (tI G W it) (tG G t) (tT G Wno c) (tE G Wno f) vs σ H Q := by
  obtain ⟨eta, M, rho, V, S, P⟩ := h
  refine ⟨eta, M, rho, V, S, P.bind.imp fun r1 H1 J M1 e1 S1 P1 J' R D hD => ?_⟩
  have E0 : Ext r1 H1 (r1 ++ [D]) (upd H1 D (.lst [])) := (Ext.laid hD).trans Ext.grow
  have S0 : StR G.K G.T (r1 ++ [D]) (upd H1 D (.lst [])) (M1 ++ [.lst []]) := S1.alloc hD ⟨[], upd_same, Reps.nil⟩
  have hDn : (r1 ++ [D])[M1.length]? = some D := by rw [← S1.len, List.getElem?_append_right (Nat.le_refl _)]; simp
  refine ⟨fun i m H' => ∃ M' rho', Ext (r1 ++ [D]) (upd H1 D (.lst [])) rho' H' ∧ StR G.K G.T rho' H' M' ∧ Post G W σ rho' H' (GoodD G.K Q) (lcLoop J t vs c f eta M1.length m i M'), ⟨FUEL, _, _, Ext.refl _ _, S0, P1.ext E0⟩, ?_⟩
  rintro i m H' ⟨M', rho', E1, S', P'⟩
  have E01 := E0.trans E1
  cases m with
  | zero => exact P'.elim
  | succ m =>
    simp only [lcLoop] at P'
    have Rj := R rho' H' M' i E01 S'
    split at P'
    · exact P'.elim
    · rename_i hJ
      rw [hJ] at Rj
      refine .inl ⟨Rj, P'.now S' _ ?_⟩
      simp only [Rep]
      exact ⟨D, rfl, E1.get hDn⟩
    · rename_i d hJ
      rw [hJ] at Rj
      obtain ⟨go, yl⟩ := Rj
      refine .inr ⟨go, fun H2 => ∃ M' rho', Ext (r1 ++ [D]) (upd H1 D (.lst [])) rho' H2 ∧ StR G.K G.T rho' H2 M' ∧ Post G W σ rho' H2 (GoodD G.K Q) (lcLoop J t vs c f eta M1.length m (i + 1) M'), fun H2 h' => ⟨m, Nat.lt_succ_self m, h'⟩, fun x H2 hy => ?_⟩
      obtain ⟨e3, S3, rx⟩ := yl x H2 hy
      split at P'
      · exact P'.elim
      · rename_i eta1 ha
        have V3 : EnvR G.K rho' H2 (wipeE eta vs) (wipe σ vs) := (((V.mono e1).mono E01).mono e3).wipe vs
        refine ⟨wipeE eta vs, M', rho', d, eta1, V3, S3, rx, ha, fun σ2 V2 w2 => ⟨?_, eta1, M', rho', V2, S3, noX_post (σ := σ) ((P'.ext e3).bind.imp fun r4 H4 b M4 e4 S4 P4 => ?_)⟩⟩
        · rw [w2 vs hsl]
          have ww : ∀ (us : List Nat) (τ : St), (∀ i ∈ us, τ[i]? = some none ∨ τ.length ≤ i) → wipe τ us = τ := by
            intro us
            induction us with
            | nil => intro τ _; rfl
            | cons u us ih =>
              intro τ h
              simp only [wipe]
              rw [ih τ fun i hi => h i (List.mem_cons_of_mem _ hi)]
              rcases h u List.mem_cons_self with hu | hu
              · have hl := (List.getElem?_eq_some_iff.mp hu).1
                have hv := (List.getElem?_eq_some_iff.mp hu).2
                conv => lhs; rw [← hv]
                exact List.set_getElem_self hl
              · exact List.set_eq_of_length_le hu
          refine ww vs _ fun i hi => ?_
          have mem_none : ∀ (us : List Nat) (τ : St), i ∈ us → (wipe τ us)[i]? = some none ∨ (wipe τ us).length ≤ i := by
            intro us
            induction us with
            | nil => intro τ h; cases h
            | cons u us ih =>
              intro τ h
              simp only [wipe]
              by_cases hu : i = u
              · subst hu
                by_cases hl : i < (wipe τ us).length
                · left; rw [List.getElem?_set_self hl]
                · right; simp; omega
              · rcases List.mem_cons.mp h with z | z
                · exact absurd z hu
                · rcases ih τ z with q | q
                  · left; rw [List.getElem?_set_ne (Ne.symm hu)]; exact q
                  · right; simpa using q
          exact mem_none vs σ hi
        · have E4 : Ext (r1 ++ [D]) (upd H1 D (.lst [])) r4 H4 := (E1.trans e3).trans e4
          cases b with
          | false => exact ⟨M4, r4, E4, S4, P4⟩
          | true =>
            refine ⟨eta1, M4, r4, V2.mono e4, S4, noX_post (σ := σ) (P4.bind.imp fun r5 H5 y M5 e5 S5 P5 v rv => ?_)⟩
            split at P5
            · exact P5.elim
            · rename_i M6 hp
              obtain ⟨acc, g1, g2, g3, g4⟩ := putAt_rep S5 hp ((E4.trans e5).get hDn) rv
              exact ⟨acc, g1, g2, M6, r5, (E4.trans e5).trans g3, g4, P5.ext g3⟩
/-- what a comprehension's block is made of, in whatever block it runs -/
abbrev InBlk (X : Cx) (scope : Scope) (P : Cx → Prop) : Prop := ∀ (s : Shared) (H : Hp) (C : Addr) (cl : List (Str × Addr)) (fp : List Addr), P (X.blk s H scope (compEnvC scope cl C X.env) fp)
theorem ev_lc {it : EvIt} {t : Tgt} {c : EvT} {f : EvE} {own : List (Str × Nat)} {elt tg iter : Expr} {ifs : List Expr} {scope : Scope} {pos : Pos} (hc : X.calm = true) (hN : X.N.Nodup) (hi : PIv G X W it tg iter) (ok : BlkOk X.N X.env.scope scope own)
    (hg : InBlk X scope fun Y => PGv G Y t tg) (ht : InBlk X scope fun Y => PTsv G Y c ifs) (he : InBlk X scope fun Y => PEv G Y Wno f elt) (hsl : ∀ i ∈ t.slots, i ∈ own.map (·.2)) (hs : ∀ x, foldedSetIterable iter X.env x = pure x := by intro _; rfl) :
    PEv G X W (eLc it t (own.map (·.2)) c f) (.ListComp elt [⟨tg, iter, ifs, 0⟩] scope pos) :=
  PE.weak (pe_lc hc hN hi ok hg ht he hs) fun σ H Q h => lc_sound hsl h
end
end Ev
namespace Ev
open PySem L2
/-- a call's arguments, then the built-in -/
def eB (f : List D → Store → Out D) (g : EvL) : EvE := fun eta M => (g eta M).bind f
def CallS (G : Gd) (f : List D → Store → Out D) (r : List V → Hp → VK → Prop) : Prop :=
  ∀ (W : WX) (σ : St) (rho : List Addr) (H : Hp) (M : Store) (ds : List D) (vs : List V) (Q : VK), StR G.K G.T rho H M → Reps G.K rho H ds vs → Post G W σ rho H (GoodD G.K Q) (f ds M) → r vs H Q
section
variable {G : Gd} {X : Cx} {W : WX}
theorem ev_callB {f : List D → Store → Out D} {r : List V → Hp → VK → Prop} {g : EvL} {id : String} {x : Str} {p pos : Pos} {e : Expr} {es : List Expr} (hc : CallR X (.builtin id) r) (hs : CallS G f r) (hg : Gl X x) (hm : X.mg x = none) (hv : bootBuiltins x = some (.builtin id)) (ha : PLv G X W g (e :: es))
    (hn : x ≠ "__name__" := by decide) (hdb : (x == ("__debug__" : Str)) = false := by decide) (he : starEach (e :: es) X.env = (false, eval e X.env) :: starEach es X.env := by rfl) (hpl : (backTo pos (starEach es X.env)).any (·.1) = false := by rfl) :
    PEv G X W (eB f g) (.Call (.Name x p) (e :: es) [] pos) :=
  PE.weak (pe_callB hc hg hm hv ha hn hdb he hpl) fun σ H Q ⟨eta, M, rho, V, S, P⟩ => ⟨eta, M, rho, V, S, P.bind.imp fun r1 H1 ds M1 e1 S1 P1 vs rvs => hs W σ r1 H1 M1 ds vs Q S1 rvs P1⟩
theorem ev_callTy {f : List D → Store → Out D} {r : List V → Hp → VK → Prop} {g : EvL} {T : String} {x : Str} {p pos : Pos} {e : Expr} {es : List Expr} (hc : CallR X (.type T) r) (hs : CallS G f r) (hg : Gl X x) (hm : X.mg x = none) (hv : bootBuiltins x = some (.type T)) (ha : PLv G X W g (e :: es))
    (hn : x ≠ "__name__" := by decide) (hdb : (x == ("__debug__" : Str)) = false := by decide) (he : starEach (e :: es) X.env = (false, eval e X.env) :: starEach es X.env := by rfl) (hpl : (backTo pos (starEach es X.env)).any (·.1) = false := by rfl) :
    PEv G X W (eB f g) (.Call (.Name x p) (e :: es) [] pos) :=
  PE.weak (pe_callTy hc hg hm hv ha hn hdb he hpl) fun σ H Q ⟨eta, M, rho, V, S, P⟩ => ⟨eta, M, rho, V, S, P.bind.imp fun r1 H1 ds M1 e1 S1 P1 vs rvs => hs W σ r1 H1 M1 ds vs Q S1 rvs P1⟩
end
def bAbs (ds : List D) (M : Store) : Out D := match ds with
  | [.int i] => .ok (.int (if i < 0 then -i else i)) M
  | _ => .bad
def bInt (ds : List D) (M : Store) : Out D := match ds with
  | [.int i] => .ok (.int i) M
  | [.bl b] => .ok (.int (if b then 1 else 0)) M
  | _ => .bad
def bLen (ds : List D) (M : Store) : Out D := match ds with
  | [.tup es] => .ok (.int es.length) M
  | [.str z] => if z.length ≤ cap then .ok (.int z.length) M else .bad
  | [.ref n] => (match M[n]? with
    | some (.lst es) => .ok (.int es.length) M
    | some (.frz es) => .ok (.int es.length) M
    | some (.dicK es) => .ok (.int es.length) M
    | some (.dicT es) => .ok (.int es.length) M
    | _ => .bad)
  | _ => .bad
/-- the ints of a list of values -/
def intsD : List D → Option (List Int)
  | [] => some []
  | .int i :: ds => (intsD ds).map (i :: ·)
  | _ => none
def listMax : List Int → Int
  | [] => 0
  | [x] => x
  | x :: xs => max x (listMax xs)
def listMin : List Int → Int
  | [] => 0
  | [x] => x
  | x :: xs => min x (listMin xs)
def bMax (ds : List D) (M : Store) : Out D := match ds with
  | [.int i, .int j] => .ok (.int (if j > i then j else i)) M
  | [.ref n] => (match liveAt n M with
    | some es => (match intsD es with
      | some ns => if 0 < ns.length then .ok (.int (listMax ns)) M else .bad
      | none => .bad)
    | none => .bad)
  | [.tup es] => (match intsD es with
    | some ns => if 0 < ns.length then .ok (.int (listMax ns)) M else .bad
    | none => .bad)
  | _ => .bad
def bMin (ds : List D) (M : Store) : Out D := match ds with
  | [.int i, .int j] => .ok (.int (if j < i then j else i)) M
  | [.ref n] => (match liveAt n M with
    | some es => (match intsD es with
      | some ns => if 0 < ns.length then .ok (.int (listMin ns)) M else .bad
      | none => .bad)
    | none => .bad)
  | _ => .bad
def bSum (ds : List D) (M : Store) : Out D := match ds with
  | [.ref n] => (match liveAt n M with
    | some es => (match intsD es with
      | some ns => .ok (.int ns.sum) M
      | none => .bad)
    | none => .bad)
  | _ => .bad
def bTuple (ds : List D) (M : Store) : Out D := match ds with
  | [.tup es] => .ok (.tup es) M
  | [.ref n] => (match liveAt n M with
    | some es => .ok (.tup es) M
    | none => .bad)
  | _ => .bad
def bList (ds : List D) (M : Store) : Out D := match ds with
  | [.tup es] => .ok (.ref M.length) (M ++ [.lst es])
  | [.ref n] => (match liveAt n M with
    | some es => .ok (.ref M.length) (M ++ [.lst es])
    | none => .bad)
  | _ => .bad
/-- the built-in class of a value -/
def tyOf (M : Store) : D → Option String
  | .non => some "NoneType"
  | .bl _ => some "bool"
  | .int _ => some "int"
  | .str _ => some "str"
  | .tup _ => some "tuple"
  | .ref n => (match M[n]? with
    | some (.lst _) => some "list"
    | some (.dicK _) => some "dict"
    | some (.dicT _) => some "dict"
    | _ => none)
  | _ => none
def csts : List D → Option (List String)
  | [] => some []
  | .cst (.ty n) :: ds => (csts ds).map (n :: ·)
  | _ => none
def kitAll (a : String) : List String → Option Bool
  | [] => some false
  | b :: bs => match kitB a b with
    | some true => some true
    | some false => kitAll a bs
    | none => none
/-- an instance of an own class -/
def insD (x : D) (M : Store) : Bool := match x with
  | .ref n => (match M[n]? with
    | some (.ins _ _) => true
    | _ => false)
  | _ => false
def btL : List String := ["int", "bool", "str", "tuple", "list", "dict"]
/-- isinstance(x, T), isinstance(x, (T, ..)), T built-in -/
def bIsi (ds : List D) (M : Store) : Out D := match ds with
  | [x, .cst (.ty b)] => (match tyOf M x with
    | some a => (match kitB a b with
      | some k => .ok (.bl k) M
      | none => .bad)
    | none => if (insD x M && btL.elem b) = true then .ok (.bl false) M else .bad)
  | [x, .tup cs] => (match tyOf M x, csts cs with
    | some a, some bs => (match kitAll a bs with
      | some k => .ok (.bl k) M
      | none => .bad)
    | none, some bs => if (insD x M && bs.all fun b => btL.elem b) = true then .ok (.bl false) M else .bad
    | _, none => .bad)
  | _ => .bad
/-- instances of an own class are no ints, texts, ... -/
structure InsK (K : PySem.W.Frag) (C : Addr) : Prop where
  ty : ∀ (H : Hp) (a dx : Addr) (fs : List (Str × V)), H a = some (.ins C dx fs) → TyOf K H (.ref a) (.ref C)
  kit : ∀ b ∈ btL, PySem.W.kitOne K (.ref C) (.type b) = some false
theorem insK_mk {K : PySem.W.Frag} {C : Addr} (cl : Cls K C) (ha : PySem.W.findIn K (.ref C) "__class__" = some (some (.builtin "object.__class__"))) (hn : PySem.W.specialIn K (.builtin "object.__class__") "__get__" = some (some (.builtin "getset_descriptor.__get__"))) (htk : PySem.W.takesIn K (.builtin "object.__class__") = some true) (hm : PySem.W.mroIn K C (.type "object") = some true)
    (e1 : PySem.W.kitOne K (.ref C) (.type "int") = some false) (e2 : PySem.W.kitOne K (.ref C) (.type "bool") = some false) (e3 : PySem.W.kitOne K (.ref C) (.type "str") = some false) (e4 : PySem.W.kitOne K (.ref C) (.type "tuple") = some false) (e5 : PySem.W.kitOne K (.ref C) (.type "list") = some false) (e6 : PySem.W.kitOne K (.ref C) (.type "dict") = some false) : InsK K C :=
  ⟨fun H a dx fs h => .ins h cl ha hn htk hm, fun b hb => by
    simp only [btL, List.mem_cons, List.not_mem_nil, or_false] at hb
    rcases hb with rfl | rfl | rfl | rfl | rfl | rfl
    · exact e1
    · exact e2
    · exact e3
    · exact e4
    · exact e5
    · exact e6⟩
def KitL (K : PySem.W.Frag) (T : List Addr) : Prop := ∀ C ∈ T, InsK K C
def KitF (K : PySem.W.Frag) (T : Tt) : Prop := KitL K T.cls
theorem kitF_nil (K : PySem.W.Frag) : KitL K [] := fun C h => nomatch h
theorem KitF.cons {K : PySem.W.Frag} {C : Addr} {T : List Addr} (h : InsK K C) (t : KitL K T) : KitL K (C :: T) := fun D hD => by
  rcases List.mem_cons.mp hD with q | q
  · rw [q]; exact h
  · exact t D q
section
variable {G : Gd} {X : Cx} {W : WX} {rho : List Addr} {H : Hp} {M : Store}
theorem intsD_rep {K : PySem.W.Frag} : ∀ {ds : List D} {ns : List Int} {vs : List V}, intsD ds = some ns → Reps K rho H ds vs → vs = ns.map V.int
  | [], ns, vs, h, r => by simp only [intsD, Option.some.injEq] at h; simp only [Reps] at r; subst h r; rfl
  | d :: ds, ns, vs, h, r => by
    cases d <;> simp only [intsD, Option.map_eq_some_iff] at h <;> try cases h
    rename_i i ks h
    simp only [Reps] at r
    obtain ⟨v, ws, rfl, r1, r2⟩ := r
    rw [rep_int r1, intsD_rep h.1 r2, ← h.2]; rfl
theorem listMax_spec : ∀ {ns : List Int}, 0 < ns.length → listMax ns ∈ ns ∧ ∀ y ∈ ns, y ≤ listMax ns
  | [], h => by simp at h
  | [x], _ => by simp [listMax]
  | x :: y :: r, _ => by
    have ih := listMax_spec (ns := y :: r) (by simp)
    have e : listMax (x :: y :: r) = max x (listMax (y :: r)) := rfl
    rw [e]
    refine ⟨?_, fun z hz => ?_⟩
    · by_cases h : x ≤ listMax (y :: r)
      · rw [Int.max_eq_right h]; exact List.mem_cons_of_mem _ ih.1
      · rw [Int.max_eq_left (by omega)]; exact List.mem_cons_self
    · rcases List.mem_cons.mp hz with q | q
      · subst q; exact Int.le_max_left _ _
      · exact Int.le_trans (ih.2 z q) (Int.le_max_right _ _)
theorem listMin_spec : ∀ {ns : List Int}, 0 < ns.length → listMin ns ∈ ns ∧ ∀ y ∈ ns, listMin ns ≤ y
  | [], h => by simp at h
  | [x], _ => by simp [listMin]
  | x :: y :: r, _ => by
    have ih := listMin_spec (ns := y :: r) (by simp)
    have e : listMin (x :: y :: r) = min x (listMin (y :: r)) := rfl
    rw [e]
    refine ⟨?_, fun z hz => ?_⟩
    · by_cases h : x ≤ listMin (y :: r)
      · rw [Int.min_eq_left h]; exact List.mem_cons_self
      · rw [Int.min_eq_right (by omega)]; exact List.mem_cons_of_mem _ ih.1
    · rcases List.mem_cons.mp hz with q | q
      · subst q; exact Int.min_le_left _ _
      · exact Int.le_trans (Int.min_le_right _ _) (ih.2 z q)
def rLenV (K : PySem.W.Frag) : List V → Hp → VK → Prop := fun xs H Q => (∃ x n, xs = [x] ∧ LenV K x H n ∧ Q (.int n) H) ∨ ((∃ a kvs, xs = [V.ref a] ∧ H a = some (.dK kvs) ∧ Q (.int kvs.length) H) ∨ rLenT xs H Q)
theorem cr_lenV : CallR X (.builtin "len") (rLenV X.K) := call_len.or (call_lenD.or call_len_dT)
theorem cs_len (hK : X.K = G.K) : CallS G bLen (rLenV X.K) := by
  rw [hK]
  intro W σ rho H M ds vs Q S r P
  match ds, P with
  | [.tup es], P =>
    obtain ⟨v, rfl, rv⟩ := r.one
    obtain ⟨a, ws, rfl, h1, h2⟩ := rep_tup rv
    exact .inl ⟨_, _, rfl, .inr ⟨ws, SqT.of h1, rfl⟩, by rw [h2.length]; exact good_int S P⟩
  | [.str z], P =>
    obtain ⟨v, rfl, rv⟩ := r.one
    cases rep_str rv
    simp only [bLen] at P
    split at P
    · rename_i h; exact .inl ⟨_, _, rfl, ⟨by rw [← cap_eq]; exact h, rfl⟩, good_int S P⟩
    · exact P.elim
  | [.ref n], P =>
    obtain ⟨v, rfl, rv⟩ := r.one
    obtain ⟨a, rfl, ha⟩ := rep_ref rv
    simp only [bLen] at P
    split at P
    · rename_i es hm
      obtain ⟨ws, g1, g2⟩ := S.at_ _ a _ ha hm
      exact .inl ⟨_, _, rfl, .inl ⟨ws, SqL.of g1, rfl⟩, by rw [g2.length]; exact good_int S P⟩
    · rename_i es hm
      obtain ⟨ws, g1, g2⟩ := S.at_ _ a _ ha hm
      exact .inl ⟨_, _, rfl, .inl ⟨ws, g1.sq, rfl⟩, by rw [g2.length]; exact good_int S P⟩
    · rename_i es hm
      obtain ⟨ws, g1, g2⟩ := S.at_ _ a _ ha hm
      have e := g2.2.length
      simp only [List.length_map] at e
      exact .inr (.inl ⟨a, ws, rfl, g1, by rw [e]; exact good_int S P⟩)
    · rename_i es hm
      obtain ⟨ws, g1, g2⟩ := S.at_ _ a _ ha hm
      have e := g2.2.length
      simp only [List.length_map] at e
      exact .inr (.inr ⟨a, ws, rfl, g1, by rw [e]; exact good_int S P⟩)
    · exact P.elim
/-- max of a tuple of ints -/
def rMaxT (K : PySem.W.Frag) : List V → Hp → VK → Prop := fun xs H Q => ∃ (a : Addr) (ns : List Int), xs = [.ref a] ∧ SqT K H a (ns.map V.int) ∧ 0 < ns.length ∧ Q (.int (listMax ns)) H
theorem dpAll_ints {K : PySem.W.Frag} {H : Hp} : ∀ ns : List Int, DpAll K H (ns.map V.int) (ns.map PyData.int)
  | [] => .nil
  | n :: ns => .cons (.int n) (dpAll_ints ns)
theorem depth_ints : ∀ ns : List Int, PyData.depthAll (ns.map PyData.int) ≤ 1
  | [] => by simp [PyData.depthAll]
  | n :: ns => by
    have := depth_ints ns
    simp only [List.map_cons, PyData.depthAll, PyData.depth]
    omega
theorem max_fold : ∀ (ns : List Int) (n : Int), ns.foldl max n = listMax (n :: ns)
  | [], n => rfl
  | [m], n => rfl
  | m :: k :: ns, n => by
    show (k :: ns).foldl max (max n m) = _
    rw [max_fold (k :: ns) (max n m)]
    simp only [listMax]
    omega
theorem cr_maxT (hc : X.calm = true) (hu : X.A.units + 160 < cLine) : CallR X (.builtin "max") (rMaxT X.K) := by
  intro pins s σ H vs us Q I r h
  obtain ⟨a, ns, rfl, hs, hne, q⟩ := h
  obtain ⟨its, rv, hl, _⟩ := I.tuple hs
  rw [Vals.ref1 r]
  cases ns with
  | nil => simp at hne
  | cons n ns =>
    obtain ⟨as, rd⟩ := Dp.readsAll I _ _ _ (dpAll_ints (n :: ns)) rv
    rw [List.map_cons] at rd
    have hal : PySem.W.AlikeAll (PyData.int n :: ns.map PyData.int) := ⟨fun x hx y hy => by
      rw [← List.map_cons] at hx hy
      obtain ⟨i, _, rfl⟩ := List.mem_map.mp hx
      obtain ⟨j, _, rfl⟩ := List.mem_map.mp hy
      rfl, fun x hx => by
      rw [← List.map_cons] at hx
      obtain ⟨i, _, rfl⟩ := List.mem_map.mp hx
      intro z
      cases z⟩
    have hd := depth_ints (n :: ns)
    rw [List.map_cons] at hd
    refine PySem.W.max_tuple_data (I.ok.hd hc) hl rd hal (by omega) fun i v h' tk bs hi rd' hk => ?_
    rw [PySem.W.maxD_ints, max_fold] at rd'
    cases rd'
    exact ⟨.int _, H, I.kept hk, ⟨_, rfl⟩, q⟩
def rMaxV (K : PySem.W.Frag) : List V → Hp → VK → Prop := fun xs H Q => ((∃ i j, xs = [.int i, .int j] ∧ Q (.int (if j > i then j else i)) H) ∨ rMax K xs H Q) ∨ rMaxT K xs H Q
theorem cr_maxV (hc : X.calm = true) (hu : X.A.units + 160 < cLine) : CallR X (.builtin "max") (rMaxV X.K) := ((call_max2 hc).or (cr_max hc)).or (cr_maxT hc hu)
def rMinV (K : PySem.W.Frag) : List V → Hp → VK → Prop := fun xs H Q => (∃ i j, xs = [.int i, .int j] ∧ Q (.int (if j < i then j else i)) H) ∨ rMin K xs H Q
theorem cr_minV (hc : X.calm = true) : CallR X (.builtin "min") (rMinV X.K) := (call_min2 hc).or (cr_min hc)
theorem live_ints {n : Nat} {a : Addr} {es : List D} {ns : List Int} {K : PySem.W.Frag} {T : Tt} (S : StR K T rho H M) (ha : rho[n]? = some a) (hl : liveAt n M = some es) (hi : intsD es = some ns) : SqL K H a (ns.map V.int) := by
  obtain ⟨vs, q, rs⟩ := live_rep S hl ha
  rw [intsD_rep hi rs] at q; exact q
theorem cs_max (hK : X.K = G.K) : CallS G bMax (rMaxV X.K) := by
  rw [hK]
  intro W σ rho H M ds vs Q S r P
  match ds, P with
  | [.int i, .int j], P =>
    obtain ⟨v, w, rfl, rv, rw'⟩ := r.two
    exact .inl (.inl ⟨i, j, by rw [rep_int rv, rep_int rw'], good_int S P⟩)
  | [.tup es], P =>
    obtain ⟨v, rfl, rv⟩ := r.one
    obtain ⟨a, ws, rfl, h1, h2⟩ := rep_tup rv
    simp only [bMax] at P
    split at P
    · rename_i ns hi
      split at P
      · rename_i h0
        have q := SqT.of (K := G.K) h1
        rw [intsD_rep hi h2] at q
        exact .inr ⟨a, ns, rfl, q, h0, good_int S P⟩
      · exact P.elim
    · exact P.elim
  | [.ref n], P =>
    obtain ⟨v, rfl, rv⟩ := r.one
    obtain ⟨a, rfl, ha⟩ := rep_ref rv
    simp only [bMax] at P
    split at P
    · rename_i es hl
      split at P
      · rename_i ns hi
        split at P
        · rename_i h0
          refine .inl (.inr ⟨a, ns, rfl, live_ints S ha hl hi, h0, fun m hm hmx => ?_⟩)
          have sp := listMax_spec h0
          have e : m = listMax ns := Int.le_antisymm (sp.2 m hm) (hmx _ sp.1)
          rw [e]; exact good_int S P
        · exact P.elim
      · exact P.elim
    · exact P.elim
theorem cs_min (hK : X.K = G.K) : CallS G bMin (rMinV X.K) := by
  rw [hK]
  intro W σ rho H M ds vs Q S r P
  match ds, P with
  | [.int i, .int j], P =>
    obtain ⟨v, w, rfl, rv, rw'⟩ := r.two
    exact .inl ⟨i, j, by rw [rep_int rv, rep_int rw'], good_int S P⟩
  | [.ref n], P =>
    obtain ⟨v, rfl, rv⟩ := r.one
    obtain ⟨a, rfl, ha⟩ := rep_ref rv
    simp only [bMin] at P
    split at P
    · rename_i es hl
      split at P
      · rename_i ns hi
        split at P
        · rename_i h0
          refine .inr ⟨a, ns, rfl, live_ints S ha hl hi, h0, fun m hm hmx => ?_⟩
          have sp := listMin_spec h0
          have e : m = listMin ns := Int.le_antisymm (hmx _ sp.1) (sp.2 m hm)
          rw [e]; exact good_int S P
        · exact P.elim
      · exact P.elim
    · exact P.elim
def rTupleV (K : PySem.W.Frag) : List V → Hp → VK → Prop := fun xs H Q => ∃ p ys, xs = [.ref p] ∧ ((SqL K H p ys ∧ ∀ l, H l = none → Q (.ref l) (upd H l (.tup ys))) ∨ (SqT K H p ys ∧ Q (.ref p) H))
theorem cr_tupleV : CallR X (.type "tuple") (rTupleV X.K) := call_tuple_of
theorem cs_tuple (hK : X.K = G.K) : CallS G bTuple (rTupleV X.K) := by
  rw [hK]
  intro W σ rho H M ds vs Q S r P
  match ds, P with
  | [.tup es], P =>
    obtain ⟨v, rfl, rv⟩ := r.one
    have rv' := rv
    obtain ⟨a, ws, rfl, h1, h2⟩ := rep_tup rv
    exact ⟨a, ws, rfl, .inr ⟨SqT.of h1, P.now S _ rv'⟩⟩
  | [.ref n], P =>
    obtain ⟨v, rfl, rv⟩ := r.one
    obtain ⟨a, rfl, ha⟩ := rep_ref rv
    simp only [bTuple] at P
    split at P
    · rename_i es hl
      obtain ⟨ws, q, rs⟩ := live_rep S hl ha
      exact ⟨a, ws, rfl, .inl ⟨q, new_tup S rs P⟩⟩
    · exact P.elim
def rListV (K : PySem.W.Frag) : List V → Hp → VK → Prop := fun xs H Q => ∃ p ys, xs = [.ref p] ∧ (SqL K H p ys ∨ SqT K H p ys) ∧ ∀ l, H l = none → Q (.ref l) (upd H l (.lst ys))
theorem cr_listV : CallR X (.type "list") (rListV X.K) := call_list_of
theorem cs_list (hK : X.K = G.K) : CallS G bList (rListV X.K) := by
  rw [hK]
  intro W σ rho H M ds vs Q S r P
  match ds, P with
  | [.tup es], P =>
    obtain ⟨v, rfl, rv⟩ := r.one
    obtain ⟨a, ws, rfl, h1, h2⟩ := rep_tup rv
    exact ⟨a, ws, rfl, .inr (SqT.of h1), new_lst S h2 P⟩
  | [.ref n], P =>
    obtain ⟨v, rfl, rv⟩ := r.one
    obtain ⟨a, rfl, ha⟩ := rep_ref rv
    simp only [bList] at P
    split at P
    · rename_i es hl
      obtain ⟨ws, q, rs⟩ := live_rep S hl ha
      exact ⟨a, ws, rfl, .inl q, new_lst S rs P⟩
    · exact P.elim
theorem tyOf_rep {K : PySem.W.Frag} {T : Tt} (S : StR K T rho H M) {d : D} {v : V} {a : String} (h : tyOf M d = some a) (r : Rep K rho H d v) : TyX K H v (.type a) := by
  cases d <;> simp only [tyOf, Option.some.injEq] at h <;> try cases h
  · cases rep_non r; exact .base .non
  · cases rep_bl r; exact .base (.bl _)
  · cases rep_int r; exact .base (.int _)
  · cases rep_str r; exact .base (.str _)
  · obtain ⟨b, ws, rfl, h1, h2⟩ := rep_tup r; exact .base (.tup h1)
  · obtain ⟨b, rfl, hb⟩ := rep_ref r
    split at h <;> try cases h
    · rename_i es hm; obtain ⟨ws, g1, g2⟩ := S.at_ _ b _ hb hm; exact .base (.lst g1)
    · rename_i es hm; obtain ⟨ws, g1, g2⟩ := S.at_ _ b _ hb hm; exact .base (.dK g1)
    · rename_i es hm; obtain ⟨ws, g1, g2⟩ := S.at_ _ b _ hb hm; exact .base (.dT g1)
theorem csts_rep {K : PySem.W.Frag} : ∀ {ds : List D} {bs : List String} {vs : List V}, csts ds = some bs → Reps K rho H ds vs → Paired ClsV vs (bs.map Value.type)
  | [], bs, vs, h, r => by simp only [csts, Option.some.injEq] at h; simp only [Reps] at r; subst h r; exact .nil
  | d :: ds, bs, vs, h, r => by
    match d, h with
    | .cst (.ty n), h =>
      simp only [csts, Option.map_eq_some_iff] at h
      obtain ⟨ks, h1, h2⟩ := h
      simp only [Reps] at r
      obtain ⟨v, ws, rfl, r1, r2⟩ := r
      rw [rep_cst r1, ← h2]
      exact .cons (.ty n) (csts_rep h1 r2)
theorem kitAll_ok {K : PySem.W.Frag} {a : String} : ∀ {bs : List String} {k : Bool}, kitAll a bs = some k → PySem.W.kitAny K (.type a) (bs.map Value.type) = some k
  | [], k, h => by simp only [kitAll, Option.some.injEq] at h; subst h; exact kitAny_nil
  | b :: bs, k, h => by
    simp only [kitAll] at h
    split at h
    · rename_i e; simp only [Option.some.injEq] at h; subst h
      exact kitAny_cons (kit_ty e) (fun z => by cases z) fun _ => rfl
    · rename_i e
      exact kitAny_cons (kit_ty e) (fun _ => kitAll_ok h) fun z => by cases z
    · cases h
def rIsiV (K : PySem.W.Frag) : List V → Hp → VK → Prop := fun xs H Q => rIsi K xs H Q ∨ rIsiT K xs H Q
theorem cr_isi : CallR X (.builtin "isinstance") (rIsiV X.K) := call_isi.or call_isiT
theorem kitAny_f {K : PySem.W.Frag} {t : Value} : ∀ {bs : List String}, (∀ b ∈ bs, PySem.W.kitOne K t (.type b) = some false) → PySem.W.kitAny K t (bs.map Value.type) = some false
  | [], _ => kitAny_nil
  | b :: bs, h => kitAny_cons (h b (List.mem_cons_self ..)) (fun _ => kitAny_f fun c hc => h c (List.mem_cons_of_mem _ hc)) fun z => by cases z
theorem insD_rep {K : PySem.W.Frag} {T : Tt} (S : StR K T rho H M) (kf : KitF K T) {d : D} {v : V} (h : insD d M = true) (r : Rep K rho H d v) : ∃ C, C ∈ T.cls ∧ TyX K H v (.ref C) := by
  cases d <;> simp only [insD, Bool.false_eq_true] at h
  obtain ⟨a, rfl, ha⟩ := rep_ref r
  split at h
  · rename_i c fs hm
    obtain ⟨C, dx, vs, h1, h2, h3⟩ := S.at_ _ a _ ha hm
    have hC : C ∈ T.cls := List.mem_of_getElem? (show T.cls[c]? = some C from h1)
    exact ⟨C, hC, .base ((kf C hC).ty H a dx vs h2)⟩
  · cases h
theorem cs_isi (hK : X.K = G.K) (kf : KitF G.K G.T) : CallS G bIsi (rIsiV X.K) := by
  rw [hK]
  intro W σ rho H M ds vs Q S r P
  match ds, P with
  | [x, .cst (.ty b)], P =>
    obtain ⟨v, w, rfl, rv, rw'⟩ := r.two
    cases rep_cst rw'
    simp only [bIsi] at P
    split at P
    · rename_i a ha
      split at P
      · rename_i k hk
        exact .inl ⟨v, .ty b, _, _, k, rfl, .ty b, tyOf_rep S ha rv, kit_ty hk, good_bl S P⟩
      · exact P.elim
    · split at P
      · rename_i hc
        rw [Bool.and_eq_true] at hc
        obtain ⟨C, hC, ht⟩ := insD_rep S kf hc.1 rv
        exact .inl ⟨v, .ty b, _, _, false, rfl, .ty b, ht, (kf C hC).kit b (List.elem_iff.mp hc.2), good_bl S P⟩
      · exact P.elim
  | [x, .tup cs], P =>
    obtain ⟨v, w, rfl, rv, rw'⟩ := r.two
    obtain ⟨a, ws, rfl, h1, h2⟩ := rep_tup rw'
    simp only [bIsi] at P
    split at P
    · rename_i a' bs ha hb
      split at P
      · rename_i k hk
        exact .inr ⟨v, a, ws, _, _, k, rfl, h1, csts_rep hb h2, tyOf_rep S ha rv, kitAll_ok hk, good_bl S P⟩
      · exact P.elim
    · rename_i bs ha hb
      split at P
      · rename_i hc
        rw [Bool.and_eq_true] at hc
        obtain ⟨C, hC, ht⟩ := insD_rep S kf hc.1 rv
        exact .inr ⟨v, a, ws, _, _, false, rfl, h1, csts_rep hb h2, ht, kitAny_f (fun b hb' => (kf C hC).kit b (List.elem_iff.mp (List.all_eq_true.mp hc.2 b hb'))), good_bl S P⟩
      · exact P.elim
    · exact P.elim
end
end Ev
namespace PySem
open Sem (wp)
theorem ev_ext_tuple (la : Addr) (its : Array Value) (ln : Nat) (tb : Addr) (its2 : Array Value) (tn : Nat) (td : Option Addr) (ts : Array (Option Value)) (g0 : ¬(!its.isEmpty && Builtin.List.listTooLong (its.size + its2.size)) = true) (g1 : its.size ≤ sizeLine) (g2 : its.size + its2.size ≤ sizeLine + 1) :
    Meets (Builtin.«list.extend» ⟨[.ref la, .ref tb], []⟩) (fun _ R st => st.heap.get? la = some { cls := .type "list", dict := none, data := .seq its ln, slots := #[] } ∧ st.heap.get? tb = some { cls := .type "tuple", dict := td, data := .seq its2 tn, slots := ts } ∧
      R (.ok (.ret Value.none)) { st with heap := st.heap.update la (Obj.mapSeq fun x => x ++ its2), toks := st.toks }) :=
  .of_wp fun pr wd A R st hh => by
    obtain ⟨h0, g, d, tk, os⟩ := st
    obtain ⟨hl, hb, k⟩ := hh
    have f1 := AutoSeq1.idx_int
    have f2 := AutoSeq1.sub_tuple_tuple
    have f3 := AutoSeq1.sub_list_list
    have f4 := AutoSeq1.sub_tuple_list
    have f5 := AutoSeq1.sub_list_tuple
    have hz : (its ++ its2).size ≤ sizeLine + 1 := by rw [Array.size_append]; exact g2
    wp_walk using (wpAny_updateSeq hl rfl (hz := g1) (_hz' := hz)), AutoSeq1.wpAny_loadPart' hl, AutoSeq1.wpAny_loadPart' hb
    exact ⟨_, rfl, k⟩
theorem ev_tmul_one (la : Addr) (its : Array Value) (ln : Nat) (td : Option Addr) (ts : Array (Option Value)) (u : Tok) :
    Meets (Builtin.«tuple.__mul__» ⟨[.ref la, .int 1 u], []⟩) (fun _ R st => st.heap.get? la = some { cls := .type "tuple", dict := td, data := .seq its ln, slots := ts } ∧ R (.ok (.ret (.ref la))) st) :=
  .of_wp fun pr wd A R st hh => by
    obtain ⟨h0, g, d, tk, os⟩ := st
    obtain ⟨hl, k⟩ := hh
    have f1 := AutoSeq1.idx_int
    have c0 : (decide ((1 : Int) < -(2 ^ 63)) || decide ((1 : Int) ≥ 2 ^ 63)) = false := by decide
    have c1 : (its.isEmpty || (1 : Int) == 1) = true := by simp
    wp_walk using AutoSeq1.wpAny_loadPart' hl
    repeat (first
      | (refine wpAny_ite_false (decide_eq_false (by rw [c0]; exact Bool.false_ne_true)) ?_; wp_walk using AutoSeq1.wpAny_loadPart' hl)
      | (refine wpAny_ite_true (decide_eq_true c1) ?_; wp_walk using AutoSeq1.wpAny_loadPart' hl))
    exact ⟨_, rfl, k⟩
theorem ev_tmul_none (la : Addr) (its : Array Value) (ln : Nat) (td : Option Addr) (ts : Array (Option Value)) (n : Int) (u : Tok) (c0 : (decide (n < -(2 ^ 63)) || decide (n ≥ 2 ^ 63)) = false) (c1 : (its.isEmpty || n == 1) = false) (c2 : (decide (n ≤ 0) || its.isEmpty) = true) :
    Meets (Builtin.«tuple.__mul__» ⟨[.ref la, .int n u], []⟩) (fun _ R st => st.heap.get? la = some { cls := .type "tuple", dict := td, data := .seq its ln, slots := ts } ∧
      R (.ok (.ret (.ref st.heap.objs.size))) { st with heap := st.heap.push { cls := .type "tuple", data := .seq #[] }, toks := st.toks }) :=
  .of_wp fun pr wd A R st hh => by
    obtain ⟨h0, g, d, tk, os⟩ := st
    obtain ⟨hl, k⟩ := hh
    have f1 := AutoSeq1.idx_int
    wp_walk using AutoSeq1.wpAny_loadPart' hl
    repeat (first
      | (refine wpAny_ite_false (decide_eq_false (by rw [c0]; exact Bool.false_ne_true)) ?_; wp_walk using AutoSeq1.wpAny_loadPart' hl)
      | (refine wpAny_ite_false (decide_eq_false (by rw [c1]; exact Bool.false_ne_true)) ?_; wp_walk using AutoSeq1.wpAny_loadPart' hl)
      | (refine wpAny_ite_true (decide_eq_true c2) ?_; wp_walk using AutoSeq1.wpAny_loadPart' hl))
    exact ⟨_, rfl, k⟩
end PySem
namespace Ev
open PySem PySem.Spec PyProof.Rows L2
section
variable {X : Cx}
/-- a tuple, not empty, once or not at all -/
def rRepT1 (K : PySem.W.Frag) : R2 := fun x y H Q => ∃ l k xs, x = .ref l ∧ y = .int k ∧ SqT K H l xs ∧ xs ≠ [] ∧ -(2 ^ 63) ≤ k ∧ k ≤ 1 ∧ (k = 1 → Q (.ref l) H) ∧ (k ≤ 0 → ∀ p, H p = none → Q (.ref p) (upd H p (.tup [])))
theorem op_repT1 : OpR X (binaryOp .Mult) (rRepT1 X.K) := by
  intro pins s σ H x y v u Q I rx ry h
  obtain ⟨l, k, xs, rfl, rfl, hT, hne, h1, h2, q1, q0⟩ := h
  obtain rfl : v = Value.ref l := rx
  obtain ⟨t, rfl⟩ := ry
  obtain ⟨its, r, ⟨⟨cls, dd, data, sl⟩, ho, hc, n, hd⟩, hs⟩ := I.tuple hT
  simp only at hc hd
  subst hc hd
  have hi : its.toArray.isEmpty = false := by
    cases its with
    | nil => cases r; exact absurd rfl hne
    | cons a b => rfl
  by_cases hk : k = 1
  · subst hk
    refine wpAny_binaryOp_repeat_ref (T := "tuple") (U := "int") (by decide) ⟨_, ho, rfl⟩ (fun s' => typeIs_int s' 1 t) noFill_tuple_mul F.fills_int_mul F.slot_int_rmul repeat_tuple F.slot_int_index.lookup
      (call_meets F.slot_int_rmul (typeIs_int s 1 t) F.entry_int_rmul (F.args_int_rmul_2 _ _) (int_rmul_tuple 1 t l its.toArray n dd sl)
        ⟨ho, rfl, ⟨_, ho, rfl⟩, call_meets F.slot_tuple_mul ⟨_, ho, rfl⟩ F.entry_tuple_mul (F.args_tuple_mul_2 _ _) (ev_tmul_one l its.toArray n dd sl t) ⟨ho, ?_⟩⟩)
    exact ⟨.ref l, H, I, rfl, q1 rfl⟩
  · have k0 : k ≤ 0 := by omega
    have c0 : (decide (k < -(2 ^ 63)) || decide (k ≥ 2 ^ 63)) = false := by
      rw [decide_eq_false (by omega), decide_eq_false (by omega)] <;> rfl
    have c1 : (its.toArray.isEmpty || k == 1) = false := by
      rw [hi, Bool.false_or]
      exact beq_eq_false_iff_ne.mpr (by omega)
    have c2 : (decide (k ≤ 0) || its.toArray.isEmpty) = true := by
      rw [decide_eq_true k0]; rfl
    refine wpAny_binaryOp_repeat_ref (T := "tuple") (U := "int") (by decide) ⟨_, ho, rfl⟩ (fun s' => typeIs_int s' k t) noFill_tuple_mul F.fills_int_mul F.slot_int_rmul repeat_tuple F.slot_int_index.lookup
      (call_meets F.slot_int_rmul (typeIs_int s k t) F.entry_int_rmul (F.args_int_rmul_2 _ _) (int_rmul_tuple k t l its.toArray n dd sl)
        ⟨ho, rfl, ⟨_, ho, rfl⟩, call_meets F.slot_tuple_mul ⟨_, ho, rfl⟩ F.entry_tuple_mul (F.args_tuple_mul_2 _ _) (ev_tmul_none l its.toArray n dd sl k t c0 c1 c2) ⟨ho, ?_⟩⟩)
    refine ⟨.ref s.heap.objs.size, _, I.laid (t' := s.toks) (o := .tup []) (fun b ob q => Heap.get?_push_of_some _ q) (Nat.le_refl _) ?_, rfl, q0 k0 _ (I.hok.fresh (Nat.le_refl _))⟩
    exact ⟨Nat.zero_le _, [], Paired.nil, IsTup.new _ _⟩
def rExtT (K : PySem.W.Frag) : V → List V → Hp → VK → Prop := fun x vs H Q => ∃ l b xs zs, x = .ref l ∧ vs = [.ref b] ∧ H l = some (.lst xs) ∧ SqT K H b zs ∧ xs.length + zs.length ≤ sizeLine ∧ Q .non (upd H l (.lst (xs ++ zs)))
theorem mt_extT : MtR X "list.extend" (rExtT X.K) := by
  intro pins s σ H x vs v us Q I rx rv h
  obtain ⟨l, b, xs, zs, rfl, rfl, hH, hB, hz, q⟩ := h
  obtain rfl : v = Value.ref l := rx
  obtain ⟨u, rfl, ru⟩ := rv.one
  obtain rfl : u = Value.ref b := ru
  obtain ⟨z, its, n, r, hl, e⟩ := I.lstM hH
  obtain ⟨its2, r2, ⟨⟨cls, dd, data, sl⟩, ho, hc, n2, hd⟩, hs⟩ := I.tuple hB
  simp only at hc hd
  subst hc hd
  have hl2 := r2.length
  have hsz : its.toArray.size + its2.toArray.size ≤ sizeLine := by rw [List.size_toArray, List.size_toArray]; omega
  have hlong : ¬ (!its.toArray.isEmpty && Builtin.List.listTooLong (its.toArray.size + its2.toArray.size)) = true := by
    rw [notLongL hsz, Bool.and_false]
    exact Bool.false_ne_true
  refine call_meets F.slot_list_extend ⟨_, e, rfl⟩ F.entry_list_extend (F.args_list_extend_2 _ _) (ev_ext_tuple l its.toArray n b its2.toArray n2 dd sl hlong (by omega) (by omega)) ⟨e, ho, ?_⟩
  exact ⟨.non, _, I.lset (its' := its ++ its2) hH e (by simp) (r.append r2) (by rw [List.length_append]; omega), rfl, q⟩
end
end Ev
namespace Ev
open PySem L2
section
variable {G : Gd} {X : Cx} {W : WX}
def dMulA (x y : D) (M : Store) : Out D := match x, y with
  | .tup as, .int k => if as ≠ [] ∧ -(2 ^ 63) ≤ k ∧ k ≤ 1000 ∧ as.length ≤ 1000 then .ok (.tup (List.replicate k.toNat as).flatten) M else .bad
  | x, y => dMul x y M
def rMulA (K : PySem.W.Frag) : R2 := fun x y H Q => rMulV K x y H Q ∨ rRepT1 K x y H Q
theorem op_mulA : OpR X (binaryOp .Mult) (rMulA X.K) := op_mulV.or op_repT1
theorem ds_mulA (hK : X.K = G.K) : OpS G dMulA (rMulA X.K) := by
  intro W σ rho H M x y v w Q S rx ry P
  by_cases hx : ∃ as k, x = .tup as ∧ y = .int k
  · obtain ⟨as, k, rfl, rfl⟩ := hx
    rw [hK]
    simp only [dMulA] at P
    split at P
    · rename_i h
      cases rep_int ry
      obtain ⟨a, vs, rfl, h1, h2⟩ := rep_tup rx
      have ne : vs ≠ [] := fun e => h.1 (by
        subst e
        have := h2.length; simp at this
        exact List.eq_nil_of_length_eq_zero this.symm)
      by_cases hk : 2 ≤ k
      · exact .inl (.inr (.inr ⟨a, _, vs, rfl, rfl, SqT.of h1, ne, hk, h.2.2.1, by rw [h2.length]; exact h.2.2.2, new_tup S (h2.rep _) P⟩))
      · refine .inr ⟨a, k, vs, rfl, rfl, SqT.of h1, ne, h.2.1, by omega, fun e => ?_, fun e => ?_⟩
        · subst e
          refine P.now S _ ?_
          simp only [Int.toNat_one, List.replicate_one, List.flatten_cons, List.flatten_nil, List.append_nil]
          exact rx
        · have e0 : k.toNat = 0 := by omega
          rw [e0] at P
          exact new_tup S (ds := []) (vs := []) Reps.nil P
    · exact P.elim
  · have e : dMulA x y M = dMul x y M := by
      unfold dMulA
      split
      · rename_i as k; exact absurd ⟨as, k, rfl, rfl⟩ hx
      · rfl
    rw [e] at P
    exact .inl (ds_mul hK W σ rho H M x y v w Q S rx ry P)
def MethS (G : Gd) (f : D → List D → Store → Out D) (r : V → List V → Hp → VK → Prop) : Prop :=
  ∀ (W : WX) (σ : St) (rho : List Addr) (H : Hp) (M : Store) (x : D) (ds : List D) (v : V) (vs : List V) (Q : VK), StR G.K G.T rho H M → Rep G.K rho H x v → Reps G.K rho H ds vs → Post G W σ rho H (GoodD G.K Q) (f x ds M) → r v vs H Q
def isLst (x : D) (M : Store) : Bool := match x with
  | .ref n => (match M[n]? with
    | some (.lst _) => true
    | _ => false)
  | _ => false
/-- xs.m(..), xs a list -/
def eMl (f : D → List D → Store → Out D) (o : EvE) (g : EvL) : EvE := fun eta M => (o eta M).bind fun x M1 => if isLst x M1 = true then (g eta M1).bind fun ds M2 => f x ds M2 else .bad
theorem isLst_rep {K : PySem.W.Frag} {T : Tt} {rho : List Addr} {H : Hp} {M : Store} {x : D} {v : V} (S : StR K T rho H M) (h : isLst x M = true) (r : Rep K rho H x v) : tyV K "list" v H := by
  unfold isLst at h
  split at h
  · obtain ⟨a, rfl, ha⟩ := rep_ref r
    split at h
    · rename_i ds hm
      obtain ⟨ws, g1, g2⟩ := S.at_ _ a _ ha hm
      exact .inl ⟨rfl, ws, SqL.of g1⟩
    · cases h
  · cases h
theorem ev_ml {f : D → List D → Store → Out D} {r : V → List V → Hp → VK → Prop} {fo : EvE} {g : EvL} {o e : Expr} {es : List Expr} {name : Str} {id : String} {apos cpos : Pos} (hK : X.K = G.K) (slot : Slot "list" name id) (hty : typeOf (.builtin id) = pure (.type "method_descriptor")) (hm : MtR X id r) (hs : MethS G f r)
    (ho : PEv G X W fo o) (ha : PLv G X W g (e :: es)) (hbase : attributeBase o name X.env (eval o X.env) = eval o X.env := by rfl)
    (hfew : ((backTo cpos (starEach (e :: es) X.env)).all (fun x => !x.1) && (backToKw cpos (keywordEach [] X.env)).all (fun x => x.1.isSome) && decide ((e :: es).length + ([] : List Keyword).length + (if ([] : List Keyword).isEmpty then 0 else 1) < 30)) = true := by rfl)
    (hline : (apos.endLine == cpos.line) = true := by rfl) (hst : starEach (e :: es) X.env = (false, eval e X.env) :: starEach es X.env := by rfl) (hplain : (backTo cpos (starEach es X.env)).any (·.1) = false := by rfl) :
    PEv G X W (eMl f fo g) (.Call (.Attribute o name apos) (e :: es) [] cpos) :=
  PE.weak (pe_bm PySem.F.plainAttrs_list slot hty hm ho ha hbase hfew hline hst hplain) fun σ H Q ⟨eta, M, rho, V, S, P⟩ => ⟨eta, M, rho, V, S, P.bind.imp fun r1 H1 x M1 e1 S1 P1 v rv => by
    split at P1
    · rename_i hl
      refine ⟨by rw [hK]; exact isLst_rep S1 hl rv, eta, M1, r1, V.mono e1, S1, P1.bind.imp fun r2 H2 ds M2 e2 S2 P2 vs rvs => hs W σ r2 H2 M2 x ds v vs Q S2 (Rep.mono e2 _ _ rv) rvs P2⟩
    · exact P1.elim⟩
def eMl0 (f : D → List D → Store → Out D) (o : EvE) : EvE := fun eta M => (o eta M).bind fun x M1 => if isLst x M1 = true then f x [] M1 else .bad
theorem ev_ml0 {f : D → List D → Store → Out D} {r : V → List V → Hp → VK → Prop} {fo : EvE} {o : Expr} {name : Str} {id : String} {apos cpos : Pos} (hK : X.K = G.K) (slot : Slot "list" name id) (hty : typeOf (.builtin id) = pure (.type "method_descriptor")) (hm : MtR X id r) (hs : MethS G f r)
    (ho : PEv G X W fo o) (hbase : attributeBase o name X.env (eval o X.env) = eval o X.env := by rfl) (hline : (apos.endLine == cpos.line) = true := by rfl) : PEv G X W (eMl0 f fo) (.Call (.Attribute o name apos) [] [] cpos) :=
  PE.weak (pe_bm0 PySem.F.plainAttrs_list slot hty hm ho hbase hline) fun σ H Q ⟨eta, M, rho, V, S, P⟩ => ⟨eta, M, rho, V, S, P.bind.imp fun r1 H1 x M1 e1 S1 P1 v rv => by
    split at P1
    · rename_i hl
      exact ⟨by rw [hK]; exact isLst_rep S1 hl rv, hs W σ r1 H1 M1 x [] v [] Q S1 rv Reps.nil P1⟩
    · exact P1.elim⟩
/-- behind a list's change -/
theorem set_lst {σ : St} {rho : List Addr} {H : Hp} {M : Store} {n : Nat} {a : Addr} {ds ds' : List D} {vs' : List V} {d : D} {v : V} {Q : VK} (S : StR G.K G.T rho H M) (ha : rho[n]? = some a) (hm : M[n]? = some (.lst ds)) (r : Reps G.K rho H ds' vs') (rv : Rep G.K rho H d v)
    (P : Post G W σ rho H (GoodD G.K Q) (.ok d (M.set n (.lst ds')))) : Q v (upd H a (.lst vs')) := by
  obtain ⟨ws, g1, g2⟩ := S.at_ _ a _ ha hm
  have E : Ext rho H rho (upd H a (.lst vs')) := Ext.write (by rw [g1]; trivial)
  exact P rho _ E (S.write ha hm rfl rfl ⟨_, upd_same, Reps.mono E _ _ r⟩) v (Rep.mono E _ _ rv)
def mAppend (x : D) (ds : List D) (M : Store) : Out D := match x, ds with
  | .ref n, [d] => (match M[n]? with
    | some (.lst es) => if es.length < cap then .ok .non (M.set n (.lst (es ++ [d]))) else .bad
    | _ => .bad)
  | _, _ => .bad
theorem ms_append : MethS G mAppend rAppend := by
  intro W σ rho H M x ds v vs Q S rx r P
  match x, ds, P with
  | .ref n, [d], P =>
    obtain ⟨a, rfl, ha⟩ := rep_ref rx
    obtain ⟨u, rfl, ru⟩ := r.one
    simp only [mAppend] at P
    split at P
    · rename_i es hm
      split at P
      · rename_i hl
        obtain ⟨ws, g1, g2⟩ := S.at_ _ a _ ha hm
        exact ⟨a, ws, u, rfl, rfl, g1, by rw [g2.length, ← cap_eq]; exact hl, set_lst S ha hm (g2.append (Reps.cons ru Reps.nil)) (by simp [Rep]) P⟩
      · exact P.elim
    · exact P.elim
def mExtend (x : D) (ds : List D) (M : Store) : Out D := match x, ds with
  | .ref n, [.tup ts] => (match M[n]? with
    | some (.lst es) => if es.length + ts.length ≤ cap then .ok .non (M.set n (.lst (es ++ ts))) else .bad
    | _ => .bad)
  | .ref n, [.ref m] => (match M[n]?, M[m]? with
    | some (.lst es), some (.lst ts) => if es.length + ts.length ≤ cap then .ok .non (M.set n (.lst (es ++ ts))) else .bad
    | _, _ => .bad)
  | _, _ => .bad
def rExtA (K : PySem.W.Frag) : V → List V → Hp → VK → Prop := fun x vs H Q => rExtend x vs H Q ∨ rExtT K x vs H Q
theorem mt_extA : MtR X "list.extend" (rExtA X.K) := MtR.or (r := rExtend) mt_extend mt_extT
theorem ms_extend (hK : X.K = G.K) : MethS G mExtend (rExtA X.K) := by
  rw [hK]
  intro W σ rho H M x ds v vs Q S rx r P
  match x, ds, P with
  | .ref n, [.tup ts], P =>
    obtain ⟨a, rfl, ha⟩ := rep_ref rx
    obtain ⟨u, rfl, ru⟩ := r.one
    obtain ⟨b, us, rfl, h1, h2⟩ := rep_tup ru
    simp only [mExtend] at P
    split at P
    · rename_i es hm
      split at P
      · rename_i hl
        obtain ⟨ws, g1, g2⟩ := S.at_ _ a _ ha hm
        exact .inr ⟨a, b, ws, us, rfl, rfl, g1, SqT.of h1, by rw [g2.length, h2.length, ← cap_eq]; exact hl, set_lst S ha hm (g2.append h2) (by simp [Rep]) P⟩
      · exact P.elim
    · exact P.elim
  | .ref n, [.ref m], P =>
    obtain ⟨a, rfl, ha⟩ := rep_ref rx
    obtain ⟨u, rfl, ru⟩ := r.one
    obtain ⟨b, rfl, hb⟩ := rep_ref ru
    simp only [mExtend] at P
    split at P
    · rename_i es ts hm hm2
      split at P
      · rename_i hl
        obtain ⟨ws, g1, g2⟩ := S.at_ _ a _ ha hm
        obtain ⟨us, g3, g4⟩ := S.at_ _ b _ hb hm2
        exact .inl ⟨a, b, ws, us, rfl, rfl, g1, g3, by rw [g2.length, g4.length, ← cap_eq]; exact hl, set_lst S ha hm (g2.append g4) (by simp [Rep]) P⟩
      · exact P.elim
    · exact P.elim
def mPop (x : D) (ds : List D) (M : Store) : Out D := match x, ds with
  | .ref n, [] => (match M[n]? with
    | some (.lst es) => (match es[es.length - 1]? with
      | some d => .ok d (M.set n (.lst es.dropLast))
      | none => .bad)
    | _ => .bad)
  | .ref n, [.int i] => (match M[n]? with
    | some (.lst es) => (match seqIndex? i es.length with
      | some k => (match es[k]? with
        | some d => if -(2 ^ 63) ≤ i ∧ i < 2 ^ 63 then .ok d (M.set n (.lst (es.eraseIdx k))) else .bad
        | none => .bad)
      | none => .bad)
    | _ => .bad)
  | _, _ => .bad
def rPopA : V → List V → Hp → VK → Prop := fun x vs H Q => rPop x vs H Q ∨ rPopAt x vs H Q
theorem mt_popA : MtR X "list.pop" rPopA := MtR.or (r := rPop) (r' := rPopAt) mt_pop mt_popAt
theorem ms_pop : MethS G mPop rPopA := by
  intro W σ rho H M x ds v vs Q S rx r P
  match x, ds, P with
  | .ref n, [], P =>
    obtain ⟨a, rfl, ha⟩ := rep_ref rx
    simp only [Reps] at r; subst r
    simp only [mPop] at P
    split at P
    · rename_i es hm
      split at P
      · rename_i d hd
        obtain ⟨ws, g1, g2⟩ := S.at_ _ a _ ha hm
        obtain ⟨u, hu, ru⟩ := g2.get hd
        exact .inl ⟨a, ws, u, rfl, rfl, g1, by rw [g2.length]; exact hu, set_lst S ha hm g2.dropLast ru P⟩
      · exact P.elim
    · exact P.elim
  | .ref n, [.int i], P =>
    obtain ⟨a, rfl, ha⟩ := rep_ref rx
    obtain ⟨u, rfl, ru⟩ := r.one
    cases rep_int ru
    simp only [mPop] at P
    split at P
    · rename_i es hm
      split at P
      · rename_i k hk
        split at P
        · rename_i d hd
          split at P
          · rename_i hi
            obtain ⟨ws, g1, g2⟩ := S.at_ _ a _ ha hm
            obtain ⟨u, hu, ru⟩ := g2.get hd
            exact .inr ⟨a, ws, i, k, u, rfl, rfl, g1, hi.1, hi.2, by rw [g2.length]; exact hk, hu, set_lst S ha hm (g2.erase k) ru P⟩
          · exact P.elim
        · exact P.elim
      · exact P.elim
    · exact P.elim
def isDic (x : D) (M : Store) : Bool := match x with
  | .ref n => (match M[n]? with
    | some (.dicK _) => true
    | some (.dicT _) => true
    | _ => false)
  | _ => false
def mGet (x y z : D) (M : Store) : Out D := match x with
  | .ref n => (match dictAt M n y with
    | some (some d) => .ok d M
    | some none => .ok z M
    | none => .bad)
  | _ => .bad
def eGet1 (o k : EvE) : EvE := fun eta M => (o eta M).bind fun x M1 => if isDic x M1 = true then (k eta M1).bind fun y M2 => mGet x y .non M2 else .bad
def eGet2 (o k z : EvE) : EvE := fun eta M => (o eta M).bind fun x M1 => if isDic x M1 = true then (k eta M1).bind fun y M2 => (z eta M2).bind fun d M3 => mGet x y d M3 else .bad
/-- in its place, or at the end -/
def putD {κ : Type} [DecidableEq κ] (kvs : List (κ × D)) (k : κ) (d : D) : List (κ × D) := if (kvs.any fun p => decide (p.1 = k)) = true then kvs.map (fun p => if p.1 = k then (p.1, d) else p) else kvs ++ [(k, d)]
def setD (x y v : D) (M : Store) : Out Unit := match x with
  | .ref n => (match M[n]? with
    | some (.lst ds) => (match y with
      | .int i => (match ixN ds.length i with
        | some j => .ok () (M.set n (.lst (ds.set j v)))
        | none => .bad)
      | _ => .bad)
    | some (.dicK kvs) => (match keyK y with
      | some k => if kvs.length < cap then .ok () (M.set n (.dicK (putD kvs k v))) else .bad
      | none => .bad)
    | some (.dicT kvs) => (match keyT y with
      | some k => if kvs.length < cap then .ok () (M.set n (.dicT (putD kvs k v))) else .bad
      | none => .bad)
    | _ => .bad)
  | _ => .bad
def sSet (o i f : EvE) : EvS := fun eta M => OutS.bindE ((f eta M).bind fun v M1 => (o eta M1).bind fun x M2 => (i eta M2).bind fun y M3 => setD x y v M3) eta fun _ M4 => .nx eta M4
def eDicK : EvE := fun _ M => .ok (.ref M.length) (M ++ [.dicK []])
def eDicT : EvE := fun _ M => .ok (.ref M.length) (M ++ [.dicT []])
abbrev EvP := Env → Store → Out (List (D × D))
def pNil : EvP := fun _ M => .ok [] M
def pCons (k v : EvE) (r : EvP) : EvP := fun eta M => (k eta M).bind fun x M1 => (v eta M1).bind fun y M2 => (r eta M2).bind fun ps M3 => .ok ((x, y) :: ps) M3
def keysOf : List (D × D) → Option (List (Key × D))
  | [] => some []
  | (x, y) :: r => match keyK x, keysOf r with
    | some k, some ks => some ((k, y) :: ks)
    | _, _ => none
def mergeD (kvs more : List (Key × D)) : List (Key × D) := more.foldl (fun acc kv => putD acc kv.1 kv.2) kvs
def eDict (r : EvP) : EvE := fun eta M => (r eta (M ++ [.dicK []])).bind fun ps M2 => match M2[M.length]?, keysOf ps with
  | some (.dicK []), some kvs => if kvs.length ≤ 15 then .ok (.ref M.length) (M2.set M.length (.dicK (mergeD [] kvs))) else .bad
  | _, _ => .bad
end
end Ev
namespace Ev
open PySem L2
open PyProof.Rows (envOfC)
mutual
def D.low (k : Nat) : D → Bool
  | .ref n => decide (n < k)
  | .tup ds => lowL k ds
  | .ktp ds => lowL k ds
  | _ => true
def lowL (k : Nat) : List D → Bool
  | [] => true
  | d :: ds => d.low k && lowL k ds
end
def MO.low (k : Nat) : MO → Bool
  | .lst ds => lowL k ds
  | .frz ds => lowL k ds
  | .dicK kvs => lowL k (kvs.map (·.2))
  | .dicT kvs => lowL k (kvs.map (·.2))
  | .ins _ fs => lowL k (fs.map (·.2))
mutual
def D.same : D → D → Bool
  | .non, .non => true
  | .bl a, .bl b => a == b
  | .int a, .int b => a == b
  | .str a, .str b => decide (a = b)
  | .tup as, .tup bs => sameL as bs
  | .ref a, .ref b => a == b
  | .cst a, .cst b => decide (a = b)
  | .ktp as, .ktp bs => sameL as bs
  | _, _ => false
def sameL : List D → List D → Bool
  | [], [] => true
  | a :: as, b :: bs => a.same b && sameL as bs
  | _, _ => false
end
mutual
theorem same_eq : ∀ (a b : D), a.same b = true → a = b
  | .non, b, h => by cases b <;> simp [D.same] at h ⊢
  | .bl a, b, h => by cases b <;> simp [D.same] at h ⊢; exact h
  | .int a, b, h => by cases b <;> simp [D.same] at h ⊢; exact h
  | .str a, b, h => by cases b <;> simp [D.same] at h ⊢; exact h
  | .ref a, b, h => by cases b <;> simp [D.same] at h ⊢; exact h
  | .cst a, b, h => by cases b <;> simp [D.same] at h ⊢; exact h
  | .tup as, b, h => by cases b <;> simp only [D.same, Bool.false_eq_true] at h; exact congrArg _ (sameL_eq as _ h)
  | .ktp as, b, h => by cases b <;> simp only [D.same, Bool.false_eq_true] at h; exact congrArg _ (sameL_eq as _ h)
theorem sameL_eq : ∀ (as bs : List D), sameL as bs = true → as = bs
  | [], bs, h => by cases bs <;> simp [sameL] at h ⊢
  | a :: as, bs, h => by
    cases bs with
    | nil => simp [sameL] at h
    | cons b bs =>
      simp only [sameL, Bool.and_eq_true] at h
      rw [same_eq a b h.1, sameL_eq as bs h.2]
end
mutual
theorem same_refl : ∀ a : D, a.same a = true
  | .non => rfl
  | .bl a => by simp [D.same]
  | .int a => by simp [D.same]
  | .str a => by simp [D.same]
  | .ref a => by simp [D.same]
  | .cst a => by simp [D.same]
  | .tup as => by simp only [D.same]; exact sameL_refl as
  | .ktp as => by simp only [D.same]; exact sameL_refl as
theorem sameL_refl : ∀ as : List D, sameL as as = true
  | [] => rfl
  | a :: as => by simp only [sameL, same_refl a, sameL_refl as, Bool.and_self]
end
def MO.same : MO → MO → Bool
  | .lst a, .lst b => sameL a b
  | .frz a, .frz b => sameL a b
  | .dicK a, .dicK b => decide (a.map (·.1) = b.map (·.1)) && sameL (a.map (·.2)) (b.map (·.2))
  | .dicT a, .dicT b => decide (a.map (·.1) = b.map (·.1)) && sameL (a.map (·.2)) (b.map (·.2))
  | .ins c a, .ins d b => (c == d) && (decide (a.map (·.1) = b.map (·.1)) && sameL (a.map (·.2)) (b.map (·.2)))
  | _, _ => false
theorem zip_eq {κ : Type} : ∀ {a b : List (κ × D)}, a.map (·.1) = b.map (·.1) → a.map (·.2) = b.map (·.2) → a = b
  | [], b, h, _ => by cases b with
    | nil => rfl
    | cons _ _ => simp at h
  | (x, y) :: a, b, h, h' => by
    cases b with
    | nil => simp at h
    | cons q b =>
      obtain ⟨u, v⟩ := q
      simp only [List.map_cons, List.cons.injEq] at h h'
      obtain ⟨rfl, h2⟩ := h
      obtain ⟨rfl, h3⟩ := h'
      rw [zip_eq h2 h3]
theorem MO.same_eq {a b : MO} (h : a.same b = true) : a = b := by
  cases a <;> cases b <;> simp only [MO.same, Bool.and_eq_true, decide_eq_true_eq, Bool.false_eq_true] at h
  · exact congrArg _ (sameL_eq _ _ h)
  · exact congrArg _ (sameL_eq _ _ h)
  · exact congrArg _ (zip_eq h.1 (sameL_eq _ _ h.2))
  · exact congrArg _ (zip_eq h.1 (sameL_eq _ _ h.2))
  · have := zip_eq h.2.1 (sameL_eq _ _ h.2.2)
    have e := eq_of_beq h.1
    subst this; subst e; rfl
theorem MO.same_refl (a : MO) : a.same a = true := by cases a <;> simp [MO.same, sameL_refl]
/-- the old objects speak of old ones alone (those that are as they were do anyhow) -/
def keptOk (k : Nat) : Store → Store → Bool
  | [], _ => true
  | m :: r, o :: s => (o.same m || o.low k) && keptOk k r s
  | _ :: _, [] => false
/-- what a def leaves: its own objects go, but for the one that it hands back -/
def gc (M0 : Store) (d : D) (M : Store) : Out D :=
  if keptOk M0.length M0 M = true then
    if d.low M0.length = true then .ok d (M.take M0.length)
    else (match d with
      | .ref n => (match M[n]? with
        | some (.frz _) => .ok d M
        | some o => if o.low M0.length = true then .ok (.ref M0.length) (M.take M0.length ++ [o]) else .ok d M
        | none => .ok d M)
      | _ => .ok d M)
  else .ok d M
section
variable {G : Gd} {K : PySem.W.Frag} {T : Tt} {rho rho' : List Addr} {H H' : Hp}
mutual
theorem Rep.low : ∀ (d : D) (v : V), Rep K rho H d v → d.low rho.length = true
  | .non, _, _ => rfl
  | .bl _, _, _ => rfl
  | .int _, _, _ => rfl
  | .str _, _, _ => rfl
  | .cst _, _, _ => rfl
  | .ref n, v, h => by
    simp only [Rep] at h
    obtain ⟨a, _, h2⟩ := h
    simp only [D.low, decide_eq_true_eq]
    exact (List.getElem?_eq_some_iff.mp h2).1
  | .tup ds, v, h => by
    simp only [Rep] at h
    obtain ⟨a, vs, _, _, h3⟩ := h
    simp only [D.low]
    exact Reps.low ds vs h3
  | .ktp ds, v, h => by
    simp only [Rep] at h
    obtain ⟨a, vs, _, _, h3⟩ := h
    simp only [D.low]
    exact Reps.low ds vs h3
theorem Reps.low : ∀ (ds : List D) (vs : List V), Reps K rho H ds vs → lowL rho.length ds = true
  | [], _, _ => rfl
  | d :: ds, vs, h => by
    simp only [Reps] at h
    obtain ⟨v, ws, _, h1, h2⟩ := h
    simp only [lowL, Bool.and_eq_true]
    exact ⟨Rep.low d v h1, Reps.low ds ws h2⟩
end
mutual
/-- fewer places are enough -/
theorem Rep.less (pre : rho <+: rho') : ∀ (d : D) (v : V), d.low rho.length = true → Rep K rho' H d v → Rep K rho H d v
  | .non, _, _, h => by simpa only [Rep] using h
  | .bl _, _, _, h => by simpa only [Rep] using h
  | .int _, _, _, h => by simpa only [Rep] using h
  | .str _, _, _, h => by simpa only [Rep] using h
  | .cst _, _, _, h => by simpa only [Rep] using h
  | .ref n, v, hb, h => by
    simp only [D.low, decide_eq_true_eq] at hb
    simp only [Rep] at h ⊢
    obtain ⟨a, h1, h2⟩ := h
    obtain ⟨t, rfl⟩ := pre
    rw [List.getElem?_append_left hb] at h2
    exact ⟨a, h1, h2⟩
  | .tup ds, v, hb, h => by
    simp only [D.low] at hb
    simp only [Rep] at h ⊢
    obtain ⟨a, vs, h1, h2, h3⟩ := h
    exact ⟨a, vs, h1, h2, Reps.less pre ds vs hb h3⟩
  | .ktp ds, v, hb, h => by
    simp only [D.low] at hb
    simp only [Rep] at h ⊢
    obtain ⟨a, vs, h1, h2, h3⟩ := h
    exact ⟨a, vs, h1, h2, Reps.less pre ds vs hb h3⟩
theorem Reps.less (pre : rho <+: rho') : ∀ (ds : List D) (vs : List V), lowL rho.length ds = true → Reps K rho' H ds vs → Reps K rho H ds vs
  | [], _, _, h => by simpa only [Reps] using h
  | d :: ds, vs, hb, h => by
    simp only [lowL, Bool.and_eq_true] at hb
    simp only [Reps] at h ⊢
    obtain ⟨v, ws, h1, h2, h3⟩ := h
    exact ⟨v, ws, h1, Rep.less pre d v hb.1 h2, Reps.less pre ds ws hb.2 h3⟩
end
theorem RepO.low {a : Addr} {o : MO} (h : RepO K T rho H a o) : o.low rho.length = true := by
  cases o with
  | lst ds => obtain ⟨vs, _, h2⟩ := h; exact Reps.low _ _ h2
  | frz ds => obtain ⟨vs, _, h2⟩ := h; exact Reps.low _ _ h2
  | dicK ds => obtain ⟨vs, _, h2⟩ := h; exact Reps.low _ _ h2.2
  | dicT ds => obtain ⟨vs, _, h2⟩ := h; exact Reps.low _ _ h2.2
  | ins c ds => obtain ⟨C, dx, vs, _, _, h2⟩ := h; exact Reps.low _ _ h2.2
theorem RepO.less (pre : rho <+: rho') {a : Addr} {o : MO} (hb : o.low rho.length = true) (h : RepO K T rho' H a o) : RepO K T rho H a o := by
  cases o with
  | lst ds => obtain ⟨vs, h1, h2⟩ := h; exact ⟨vs, h1, Reps.less pre _ _ hb h2⟩
  | frz ds => obtain ⟨vs, h1, h2⟩ := h; exact ⟨vs, h1, Reps.less pre _ _ hb h2⟩
  | dicK ds => obtain ⟨vs, h1, h2⟩ := h; exact ⟨vs, h1, h2.1, Reps.less pre _ _ hb h2.2⟩
  | dicT ds => obtain ⟨vs, h1, h2⟩ := h; exact ⟨vs, h1, h2.1, Reps.less pre _ _ hb h2.2⟩
  | ins c ds => obtain ⟨C, dx, vs, h0, h1, h2⟩ := h; exact ⟨C, dx, vs, h0, h1, h2.1, Reps.less pre _ _ hb h2.2⟩
theorem keptOk_at {k : Nat} : ∀ {M0 M : Store}, keptOk k M0 M = true → M0.length ≤ M.length ∧ ∀ (i : Nat) (m : MO), M0[i]? = some m → ∃ o : MO, M[i]? = some o ∧ (o = m ∨ o.low k = true)
  | [], M, _ => ⟨Nat.zero_le _, fun i m h => by simp at h⟩
  | m :: r, [], h => by simp [keptOk] at h
  | m :: r, o :: s, h => by
    simp only [keptOk, Bool.and_eq_true, Bool.or_eq_true] at h
    obtain ⟨h1, h2⟩ := keptOk_at h.2
    refine ⟨by simpa using h1, fun i x hx => ?_⟩
    cases i with
    | zero =>
      simp at hx; subst hx
      exact ⟨o, rfl, h.1.imp (fun z => MO.same_eq z) fun z => z⟩
    | succ i =>
      obtain ⟨p, h3, h4⟩ := h2 i x (by simpa using hx)
      exact ⟨p, by simpa using h3, h4⟩
/-- the old places alone -/
theorem StR.cut {M0 M : Store} (S0 : StR K T rho H M0) (S : StR K T rho' H' M) (e : Ext rho H rho' H') (h : keptOk M0.length M0 M = true) : StR K T rho H' (M.take M0.length) := by
  obtain ⟨hl, ha⟩ := keptOk_at h
  have at0 : ∀ {i : Nat} {o : MO}, (M.take M0.length)[i]? = some o → i < M0.length ∧ M[i]? = some o := fun {i o} q => by
    have h1 := (List.getElem?_eq_some_iff.mp q).1
    rw [List.length_take] at h1
    have h2 : i < M0.length := by omega
    rw [List.getElem?_take_of_lt h2] at q
    exact ⟨h2, q⟩
  refine ⟨?_, fun i j a o u h1 h2 h3 h4 f1 f2 => ?_, fun i a o h1 h2 => ?_, S.tabs⟩
  · rw [S0.len, List.length_take]; omega
  · exact S.inj i j a o u (e.get h1) (e.get h2) (at0 h3).2 (at0 h4).2 f1 f2
  · obtain ⟨hi, hm⟩ := at0 h2
    have hr := S.at_ i a o (e.get h1) hm
    obtain ⟨m0, hm0⟩ : ∃ m0, M0[i]? = some m0 := ⟨M0[i], List.getElem?_eq_getElem hi⟩
    obtain ⟨o', ho', hb⟩ := ha i m0 hm0
    rw [hm] at ho'; cases ho'
    refine hr.less e.pre ?_
    rcases hb with z | z
    · subst z; exact (S0.at_ i a o h1 hm0).low
    · rw [S0.len]; exact z
theorem Ext.cut (e : Ext rho H rho' H') : Ext rho H rho H' := ⟨List.prefix_refl _, e.tups, e.frzs⟩
theorem gc_rep {M0 M M1 : Store} {d d1 : D} {v : V} (S0 : StR K T rho H M0) (S : StR K T rho' H' M) (e : Ext rho H rho' H') (r : Rep K rho' H' d v) (h : gc M0 d M = .ok d1 M1) :
    ∃ rho1, Ext rho H rho1 H' ∧ StR K T rho1 H' M1 ∧ Rep K rho1 H' d1 v := by
  unfold gc at h
  split at h
  · rename_i hk
    have S1 := StR.cut S0 S e hk
    split at h
    · rename_i hb
      cases h
      exact ⟨rho, e.cut, S1, Rep.less e.pre d v (by rw [S0.len]; exact hb) r⟩
    · rename_i hb
      split at h
      · rename_i n
        have same : ∃ rho1, Ext rho H rho1 H' ∧ StR K T rho1 H' M ∧ Rep K rho1 H' (.ref n) v := ⟨rho', e, S, r⟩
        split at h
        · cases h; exact same
        · rename_i o hnf hm
          split at h
          · rename_i hob
            cases h
            obtain ⟨a, rfl, ha⟩ := rep_ref r
            have ho := S.at_ n a o ha hm
            have hfz : o.isFrz = false := by cases o <;> first | rfl | exact absurd rfl (hnf _)
            have hn : M0.length ≤ n := by
              simp only [D.low, decide_eq_true_eq] at hb
              omega
            have el : (M.take M0.length).length = M0.length := by
              have := S1.len
              rw [S0.len] at this; exact this.symm
            have hkl : rho.length = M0.length := S0.len
            refine ⟨rho ++ [a], e.cut.trans Ext.grow, ⟨by simp [hkl, el], fun i j b p q h1 h2 h3 h4 f1 f2 => ?_, fun i b p h1 h2 => ?_, S.tabs⟩, ?_⟩
            · have sp : ∀ (i : Nat) (b : Addr) (p : MO), (rho ++ [a])[i]? = some b → (M.take M0.length ++ [o])[i]? = some p → (rho[i]? = some b ∧ (M.take M0.length)[i]? = some p ∧ i < M0.length) ∨ (i = M0.length ∧ b = a ∧ p = o) := fun i b p g1 g2 => by
                by_cases hi : i < M0.length
                · rw [List.getElem?_append_left (by omega)] at g1 g2
                  exact .inl ⟨g1, g2, hi⟩
                · have hi' : i = M0.length := by
                    have := (List.getElem?_eq_some_iff.mp g1).1
                    simp at this; omega
                  subst hi'
                  rw [List.getElem?_append_right (by omega), hkl] at g1
                  rw [List.getElem?_append_right (by omega), el] at g2
                  simp at g1 g2
                  exact .inr ⟨rfl, g1.symm, g2.symm⟩
              have up : ∀ (i : Nat) (b : Addr) (p : MO), rho[i]? = some b → (M.take M0.length)[i]? = some p → i < M0.length → b = a → p.isFrz = false → False := fun i b p g1 g2 g3 g4 g5 => by
                subst g4
                rw [List.getElem?_take_of_lt g3] at g2
                have := S.inj i n b p o (e.get g1) ha g2 hm g5 hfz
                omega
              rcases sp i b p h1 h3 with ⟨a1, a2, a3⟩ | ⟨a1, a2, a3⟩ <;> rcases sp j b q h2 h4 with ⟨b1, b2, b3⟩ | ⟨b1, b2, b3⟩
              · exact S1.inj i j b p q a1 b1 a2 b2 f1 f2
              · exact (up i b p a1 a2 a3 b2 f1).elim
              · exact (up j b q b1 b2 b3 a2 f2).elim
              · omega
            · by_cases hi : i < M0.length
              · rw [List.getElem?_append_left (by omega)] at h1 h2
                exact (S1.at_ i b p h1 h2).mono Ext.grow fun _ => rfl
              · have hi' : i = M0.length := by
                  have := (List.getElem?_eq_some_iff.mp h1).1
                  simp at this; omega
                subst hi'
                rw [List.getElem?_append_right (by omega), hkl] at h1
                rw [List.getElem?_append_right (by omega), el] at h2
                simp at h1 h2
                subst h1; subst h2
                exact (ho.less e.pre (by rw [hkl]; exact hob)).mono Ext.grow fun _ => rfl
            · simp only [Rep]
              exact ⟨a, rfl, by rw [List.getElem?_append_right (by omega), hkl]; simp⟩
          · cases h; exact same
        · cases h; exact same
      · cases h; exact ⟨rho', e, S, r⟩
  · cases h; exact ⟨rho', e, S, r⟩
theorem gc_ok (M0 : Store) (d : D) (M : Store) : ∃ d1 M1, gc M0 d M = .ok d1 M1 := by
  unfold gc
  split
  · split
    · exact ⟨_, _, rfl⟩
    · split
      · split
        · exact ⟨_, _, rfl⟩
        · split <;> exact ⟨_, _, rfl⟩
        · exact ⟨_, _, rfl⟩
      · exact ⟨_, _, rfl⟩
  · exact ⟨_, _, rfl⟩
end
abbrev Tab := Nat → List D → Store → Out D
structure Fn where
  /-- how many names, how many parameters -/
  nn : Nat
  np : Nat
  body : Tab → EvS
def finS (M0 : Store) : OutS → Out D
  | .rt d M => gc M0 d M
  | .nx _ M => gc M0 .non M
  | .exc x fs _ M => .exc x fs M
  | _ => .bad
def runFn (F : Fn) (T : Tab) (args : List D) (M : Store) : Out D :=
  if args.length = F.np then finS M (F.body T (args.map some ++ List.replicate (F.nn - F.np) none) M) else .bad
def tabOf (P : List Fn) : Nat → Tab
  | 0 => fun _ _ _ => .bad
  | k + 1 => fun i args M => match P[i]? with
    | some F => runFn F (tabOf P k) args M
    | none => .bad
def eCall (T : Tab) (i : Nat) (g : EvL) : EvE := fun eta M => (g eta M).bind fun ds M1 => T i ds M1
/-- what a def promises: what the table says -/
def spT (G : Gd) (t : List D → Store → Out D) : Sp := fun vs H Q E => ∃ M rho ds, StR G.K G.T rho H M ∧ Reps G.K rho H ds vs ∧ Post G (fun c d _ H' => E c d H') [] rho H (GoodD G.K Q) (t ds M)
/-- the def at f keeps its promise where there is room and no repr runs -/
def FG (P : Program) (w : World) (K : PySem.W.Frag) (mg : Str → Option Value) (base : Heap) (k : Nat) (f : Addr) (sp : Sp) : Prop :=
  ∀ (A : Around) (outer : List PySem.Env) (s : Shared) (H : Hp) (us : List Value) (vs : List V) (Q : VK) (E : XK), Room k A → A.guards = some [] → Env0 P w K mg base A outer s H → Vals vs us → sp vs H Q E →
    codeAny (model P w) A (.call (.ref f) ⟨us, []⟩) (CR (L2.CX P w) outer P w H s Q E) s
/-- the same however the arguments are bound -/
def FGB (P : Program) (w : World) (K : PySem.W.Frag) (mg : Str → Option Value) (base : Heap) (k : Nat) (f : Addr) (fd : FuncData) (ps : List Str) (sp : Sp) : Prop :=
  ∀ (A : Around) (outer : List PySem.Env) (s : Shared) (H : Hp) (args : Args) (us : List Value) (vs : List V) (Q : VK) (E : XK), Room k A → A.guards = some [] → Env0 P w K mg base A outer s H → BindsTo s fd args (ps.zip us) → Vals vs us → sp vs H Q E →
    codeAny (model P w) A (.call (.ref f) args) (CR (L2.CX P w) outer P w H s Q E) s
theorem FGB.mono {P : Program} {w : World} {K : PySem.W.Frag} {mg : Str → Option Value} {base : Heap} {j k : Nat} {f : Addr} {fd : FuncData} {ps : List Str} {sp : Sp} (F : FGB P w K mg base j f fd ps sp) (h : j ≤ k) : FGB P w K mg base k f fd ps sp :=
  fun A outer s H args us vs Q E hr => F A outer s H args us vs Q E (hr.mono h)
theorem FG.mono {P : Program} {w : World} {K : PySem.W.Frag} {mg : Str → Option Value} {base : Heap} {j k : Nat} {f : Addr} {sp : Sp} (F : FG P w K mg base j f sp) (h : j ≤ k) : FG P w K mg base k f sp :=
  fun A outer s H us vs Q E hr => F A outer s H us vs Q E (hr.mono h)
section
variable {G : Gd} {X : Cx} {W : WX}
theorem fg_run {pins : List (Addr × Obj)} {σ : St} {H : Hp} {s : Shared} {Q : VK} {us : List Value} {vs : List V} {k : Nat} {f : Addr} {sp : Sp} (F : FG X.prog X.w X.K X.mg X.base k f sp) (hr : Room k X.A) (hgu : X.A.guards = some []) (tk : Takes X W)
    (I : Inv X pins σ H s) (r : Vals vs us) (h : sp vs H Q fun c d H' => W c d σ H') : wpAny (model X.prog X.w) X.A (call (.ref f) us) (EP X pins σ Q) X.xe s :=
  wpAny_call (codeAny_mono (F X.A X.stack s H us vs Q _ hr hgu I.env0 r h) fun res s1 hq => by
    cases res with
    | error er => exact tk er s1 (XE.of_call I (fun _ _ _ z => z) hq)
    | ok fl => cases fl <;> first | exact I.after hq | exact False.elim hq)
theorem ev_call {t : Tab} {i k : Nat} {f : Addr} {g : EvL} {x : Str} {p pos : Pos} {e : Expr} {es : List Expr} (F : FG X.prog X.w X.K X.mg X.base k f (spT G (t i))) (hr : Room k X.A) (hgu : X.A.guards = some []) (tk : Takes X W) (hm : X.mg x = some (.ref f)) (hk : PySem.W.keepIn X.K (.ref f) = true)
    (ha : PLv G X W g (e :: es)) (hg : Gl X x := by rfl) (hdb : (x == ("__debug__" : Str)) = false := by decide) (he : starEach (e :: es) X.env = (false, eval e X.env) :: starEach es X.env := by rfl) (hpl : (backTo pos (starEach es X.env)).any (·.1) = false := by rfl) :
    PEv G X W (eCall t i g) (.Call (.Name x p) (e :: es) [] pos) :=
  ⟨fun pins s σ H Q I ⟨eta, M, rho, V, S, P⟩ => wpAny_Call_Name_kw (ld_glob I hg hm (PySem.W.callWith_K (h₀ := X.base) I.ok.mod.kin hk
    (thn (ha.run pos pins s σ H (fun vs H1 => spT G (t i) vs H1 Q fun c d H' => W c d σ H') I ⟨eta, M, rho, V, S, P.bind.imp fun r1 H1 ds M1 e1 S1 P1 vs rvs => ⟨M1, r1, ds, S1, rvs, by
        cases hq : t i ds M1 with
        | ok d M2 => rw [hq] at P1; exact P1
        | exc x fs M2 => rw [hq] at P1; exact P1
        | bad => rw [hq] at P1; exact P1⟩⟩)
      fun us s1 ⟨vs, H1, I1, r, q⟩ => ⟨I1.kIn, fg_run F hr hgu tk I1 r q⟩) he hpl) hdb)⟩
theorem ev_call0 {t : Tab} {i k : Nat} {f : Addr} {x : Str} {p pos : Pos} (F : FG X.prog X.w X.K X.mg X.base k f (spT G (t i))) (hr : Room k X.A) (hgu : X.A.guards = some []) (tk : Takes X W) (hm : X.mg x = some (.ref f)) (hk : PySem.W.keepIn X.K (.ref f) = true)
    (hg : Gl X x := by rfl) (hdb : (x == ("__debug__" : Str)) = false := by decide) : PEv G X W (eCall t i lNil) (.Call (.Name x p) [] [] pos) :=
  ⟨fun pins s σ H Q I ⟨eta, M, rho, V, S, P⟩ => wpAny_Call_Name_kw (ld_glob I hg hm (PySem.W.callWith_K0 I.kIn hk (fg_run (us := []) F hr hgu tk I .nil ⟨M, rho, [], S, Reps.nil, by
        have P1 : Post G W σ rho H (GoodD G.K Q) (t i [] M) := P
        cases hq : t i [] M with
        | ok d M2 => rw [hq] at P1; exact P1
        | exc x fs M2 => rw [hq] at P1; exact P1
        | bad => rw [hq] at P1; exact P1⟩)) hdb)⟩
end
/-- the slots at the entry -/
theorem env_start {K : PySem.W.Frag} {rho : List Addr} {H : Hp} {ds : List D} {vs : List V} {N : List Str} {nn : Nat} (r : Reps K rho H ds vs) (hn : N.length = nn) : EnvR K rho H (ds.map some ++ List.replicate (nn - ds.length) none) (L2.start N vs) := by
  have hl := r.length
  refine ⟨by simp [L2.start, hl, hn], fun i d h => ?_⟩
  by_cases hi : i < ds.length
  · rw [List.getElem?_append_left (by simpa using hi), List.getElem?_map] at h
    cases e : ds[i]? with
    | none => rw [e] at h; simp at h
    | some d' =>
      rw [e] at h
      simp at h; subst h
      obtain ⟨v, h1, h2⟩ := r.get e
      refine ⟨v, ?_, h2⟩
      unfold L2.start
      rw [List.getElem?_append_left (by simp; omega), List.getElem?_map, h1]; rfl
  · rw [List.getElem?_append_right (by simpa using hi)] at h
    have := (List.getElem?_eq_some_iff.mp h).2
    simp at this
/-- the code object of the def at f -/
def codeOf (K : PySem.W.Frag) (f : Addr) : Option Value := match K.lookup f with
  | some ⟨_, _, .func fd, _⟩ => some fd.code
  | _ => none
/-- THE RULE: a def of the text keeps the table's promise, by its body's evaluation -/
theorem fg_ofB {G : Gd} {P : Program} {w : World} {mg : Str → Option Value} {base : Heap} {k : Nat} {f : Addr} {x qual : Str} {st : Stmt} {fd : FuncData} {N ps : List Str} {F : Fn} {t : Tab} {ti : List D → Store → Out D} (Fu : Fun G.K x qual st f fd) (S : FnScope N ps (defScope st))
    (hnn : N.length = F.nn) (hnp : ps.length = F.np) (hti : ∀ ds M, ti ds M = runFn F t ds M)
    (hbody : ∀ (cdv : Value), codeOf G.K f = some cdv → ∀ (A : Around) (outer : List PySem.Env) (s : Shared) (H : Hp) (E : XK), Room k (A.deeper (envOfC qual (defScope st) s.heap.objs.size f cdv)) → Room k (A.deeper (envOfC qual (defScope st) s.heap.objs.size f cdv)).in1 → A.guards = some [] →
      Takes (cxOf (L2.CX P w) P w G.K mg base N qual (defScope st) f cdv A outer s H E) (fun c d _ H' => E c d H') → PassesOwn (model P w) (A.deeper (envOfC qual (defScope st) s.heap.objs.size f cdv)) (envOfC qual (defScope st) s.heap.objs.size f cdv) (cxOf (L2.CX P w) P w G.K mg base N qual (defScope st) f cdv A outer s H E).xe →
      PSsv G (cxOf (L2.CX P w) P w G.K mg base N qual (defScope st) f cdv A outer s H E) (fun c d _ H' => E c d H') (F.body t) (defBody st)) :
    FGB P w G.K mg base (k + 1) f fd ps (spT G ti) := by
  obtain ⟨oc, od, kV, doc, pm, an, cdv, ct, osl, efd, lk, hcd⟩ := Fu.ex
  subst efd
  intro A outer s H args us vs Q E hr hgu e0 bnd rv ⟨M, rho, ds, St0, rs, P0⟩
  rw [hti] at P0
  unfold runFn at P0
  split at P0
  case isFalse => exact P0.elim
  rename_i hlen
  have hvl : vs.length = ps.length := by rw [rs.length, hlen, hnp]
  have kin : G.K.In s.heap := e0.mod.kin.keeps fun b o e => (e0.bs b o e).1
  have lim : s.heap.NoLimit := e0.mod.nolimit.keeps fun b o e => (e0.bs b o e).1
  have pk : ∀ y ∈ ps.zip us, (defScope st).names.lookup y.1 = some .local ∨ ((defScope st).names.lookup y.1 = some .cell ∧ ((cellsFrom (s.heap.objs.size + 1) (defScope st).names []).lookup y.1).isSome = true) := by
    rintro ⟨n, v⟩ hy
    rcases S.par n (List.of_mem_zip hy).1 with q | q
    · exact .inl q
    · exact .inr ⟨q, PySem.W.cellsFrom_some _ _ _ (.inl q)⟩
  refine codeAny_call_function hr.depth (kin _ _ lk) rfl S.co S.gen rfl (PySem.W.codeRec_of kin hcd) (bnd _ _ _ _ ?_)
  refine wpAny_newFunctionEnv_cells S.kind pk fun env he s1 xx => ?_
  subst he
  refine ⟨lim.keeps xx.toInCall.keep, codeAny_func ?_⟩
  have rm : Room k (A.deeper (envOfC qual (defScope st) s.heap.objs.size f cdv)) := hr.deeper _
  have rm1 : Room k (A.deeper (envOfC qual (defScope st) s.heap.objs.size f cdv)).in1 := ⟨hr.hd, by have := hr.dp; show A.depth + 1 + 3 * k + 5 < _; omega, by have := hr.un; show A.units + 3 + 1 + 16 * k + 200 < _; omega⟩
  have J : Inv (cxOf (L2.CX P w) P w G.K mg base N qual (defScope st) f cdv A outer s H E) [] (L2.start N vs) H s1 := inv_start S hr.hd e0 hvl rv xx
  have hb := hbody cdv (by unfold codeOf; rw [lk]) A outer s H E rm rm1 hgu (takes_of rfl rfl rfl rfl) (passes_of rfl)
  have hEnv : EnvR G.K rho H (ds.map some ++ List.replicate (F.nn - F.np) none) (L2.start N vs) := by rw [← hlen]; exact env_start rs hnn
  refine wpAny_mono (hb.run [] s1 (L2.start N vs) H { nx := fun _ H' => Q .non H', rt := Q } J ⟨_, M, rho, hEnv, St0, ?_⟩) (fun fl s2 hs => ?_) fun er s2 hs => hs
  · cases e : F.body t (ds.map some ++ List.replicate (F.nn - F.np) none) M with
    | rt d M1 =>
      rw [e] at P0
      intro r1 H1 v e1 S1 R1
      obtain ⟨d1, M2, hg⟩ := gc_ok M d M1
      obtain ⟨r2, e2, S2, R2⟩ := gc_rep St0 S1 e1 R1 hg
      have P1 : Post G (fun c d _ H' => E c d H') [] rho H (GoodD G.K Q) (gc M d M1) := P0
      rw [hg] at P1
      exact P1 r2 H1 e2 S2 v R2
    | nx eta1 M1 =>
      rw [e] at P0
      intro r1 H1 σ1 e1 S1 V1
      obtain ⟨d1, M2, hg⟩ := gc_ok M .non M1
      obtain ⟨r2, e2, S2, R2⟩ := gc_rep (v := .non) St0 S1 e1 (by simp [Rep]) hg
      have P1 : Post G (fun c d _ H' => E c d H') [] rho H (GoodD G.K Q) (gc M .non M1) := P0
      rw [hg] at P1
      exact P1 r2 H1 e2 S2 .non R2
    | bk eta1 M1 => rw [e] at P0; exact P0.elim
    | ct eta1 M1 => rw [e] at P0; exact P0.elim
    | exc x fs eta1 M1 =>
      rw [e] at P0
      exact fun r1 H1 σ1 cls dd e1 S1 V1 X1 => P0 r1 H1 cls dd e1 S1 X1
    | bad => rw [e] at P0; exact P0.elim
  · cases fl with
    | ret u =>
      obtain ⟨v, σ1, H1, J1, r1, q⟩ := hs
      exact ⟨v, H1, J1.os, J1.bare, J1.base, J1.hok, r1, q⟩
    | next =>
      obtain ⟨σ1, H1, J1, q⟩ := hs
      exact ⟨V.non, H1, J1.os, J1.bare, J1.base, J1.hok, rfl, q⟩
    | brk => obtain ⟨_, _, _, q⟩ := hs; exact False.elim q
    | cont => obtain ⟨_, _, _, q⟩ := hs; exact False.elim q
/-- .. called by position -/
theorem fg_ofC {G : Gd} {P : Program} {w : World} {mg : Str → Option Value} {base : Heap} {k : Nat} {f : Addr} {x qual : Str} {st : Stmt} {fd : FuncData} {N ps : List Str} {F : Fn} {t : Tab} {ti : List D → Store → Out D} (Fu : Fun G.K x qual st f fd) (bi : Binds G.K fd ps []) (S : FnScope N ps (defScope st))
    (hnn : N.length = F.nn) (hnp : ps.length = F.np) (hti : ∀ ds M, ti ds M = runFn F t ds M)
    (hbody : ∀ (cdv : Value), codeOf G.K f = some cdv → ∀ (A : Around) (outer : List PySem.Env) (s : Shared) (H : Hp) (E : XK), Room k (A.deeper (envOfC qual (defScope st) s.heap.objs.size f cdv)) → Room k (A.deeper (envOfC qual (defScope st) s.heap.objs.size f cdv)).in1 → A.guards = some [] →
      Takes (cxOf (L2.CX P w) P w G.K mg base N qual (defScope st) f cdv A outer s H E) (fun c d _ H' => E c d H') → PassesOwn (model P w) (A.deeper (envOfC qual (defScope st) s.heap.objs.size f cdv)) (envOfC qual (defScope st) s.heap.objs.size f cdv) (cxOf (L2.CX P w) P w G.K mg base N qual (defScope st) f cdv A outer s H E).xe →
      PSsv G (cxOf (L2.CX P w) P w G.K mg base N qual (defScope st) f cdv A outer s H E) (fun c d _ H' => E c d H') (F.body t) (defBody st)) :
    FG P w G.K mg base (k + 1) f (spT G ti) := fun A outer s H us vs Q E hr hgu e0 rv h => by
  have hh := h
  obtain ⟨M, rho, ds, St0, rs, P0⟩ := hh
  rw [hti] at P0
  unfold runFn at P0
  split at P0
  case isFalse => exact P0.elim
  rename_i hlen
  have hul : (us ++ []).length = ps.length := by rw [List.append_nil, ← rv.length, rs.length, hlen, hnp]
  have kin : G.K.In s.heap := e0.mod.kin.keeps fun b o e => (e0.bs b o e).1
  have bnd := bi s us kin hul
  rw [List.append_nil] at bnd
  exact fg_ofB Fu S hnn hnp hti hbody A outer s H _ us vs Q E hr hgu e0 bnd rv h
/-- nothing is promised at level 0 -/
theorem fg_of {G : Gd} {P : Program} {w : World} {mg : Str → Option Value} {base : Heap} {k : Nat} {f : Addr} {x qual : Str} {st : Stmt} {fd : FuncData} {N ps : List Str} {F : Fn} {t : Tab} {ti : List D → Store → Out D} (Fu : Fun G.K x qual st f fd) (bi : Binds G.K fd ps []) (S : FnScope N ps (defScope st))
    (hnn : N.length = F.nn) (hnp : ps.length = F.np) (hti : ∀ ds M, ti ds M = runFn F t ds M)
    (hbody : ∀ (cdv : Value) (A : Around) (outer : List PySem.Env) (s : Shared) (H : Hp) (E : XK), Room k (A.deeper (envOfC qual (defScope st) s.heap.objs.size f cdv)) → Room k (A.deeper (envOfC qual (defScope st) s.heap.objs.size f cdv)).in1 → A.guards = some [] →
      Takes (cxOf (L2.CX P w) P w G.K mg base N qual (defScope st) f cdv A outer s H E) (fun c d _ H' => E c d H') → PassesOwn (model P w) (A.deeper (envOfC qual (defScope st) s.heap.objs.size f cdv)) (envOfC qual (defScope st) s.heap.objs.size f cdv) (cxOf (L2.CX P w) P w G.K mg base N qual (defScope st) f cdv A outer s H E).xe →
      PSsv G (cxOf (L2.CX P w) P w G.K mg base N qual (defScope st) f cdv A outer s H E) (fun c d _ H' => E c d H') (F.body t) (defBody st)) :
    FG P w G.K mg base (k + 1) f (spT G ti) :=
  fg_ofC Fu bi S hnn hnp hti fun cdv _ => hbody cdv
end Ev
namespace Ev
open PySem PySem.Spec PyProof.Rows L2
theorem reps_ints {K : PySem.W.Frag} {rho : List Addr} {H : Hp} : ∀ ns : List Int, Reps K rho H (ns.map D.int) (ns.map V.int)
  | [] => by simp [Reps]
  | n :: ns => by
    simp only [List.map_cons, Reps]
    exact ⟨_, _, rfl, by simp [Rep], reps_ints ns⟩
end Ev
namespace Ev
open PySem L2
section
variable {G : Gd} {X : Cx} {W : WX}
theorem takes_no {Y : Cx} : Takes Y Wno := fun _ _ ⟨_, _, _, _, _, _, _, _, _, _, _, _, _, _, _, _, w⟩ => w.elim
/-- what a def's context has -/
structure Okk (G : Gd) (X : Cx) (k : Nat) : Prop where
  hK : X.K = G.K
  calm : X.calm = true
  nd : X.N.Nodup
  room : Room k X.A
  room1 : Room k X.A.in1
  gu : X.A.guards = some []
theorem Okk.u1 {k : Nat} (o : Okk G X k) : X.A.units + 160 < cLine := by have := o.room.un; omega
theorem Okk.u2 {k : Nat} (o : Okk G X k) : X.A.units + 1 < cLine := by have := o.room.un; omega
theorem ev_or1 {op : BoolOp} {f : EvE} {a : Expr} {pos : Pos} (h : PEv G X W f a) : PEv G X W f (.BoolOp op [a] pos) := pe_one h
theorem ev_and (hK : X.K = G.K) {f g : EvE} {a b : Expr} {rest : List Expr} {pos : Pos} (ha : PEv G X W f a) (hb : PEv G X W g (.BoolOp .And (b :: rest) pos)) : PEv G X W (eAn f g) (.BoolOp .And (a :: b :: rest) pos) :=
  PE.weak (pe_andT ha hb) fun σ H Q ⟨eta, M, rho, E, S, P⟩ => ⟨eta, M, rho, E, S, P.bind.imp fun r1 H1 x M1 e1 S1 P1 v rv => by
    obtain ⟨k, h1, h2⟩ := truthD_ok (W := W) (σ := σ) (Q := fun c H' => H' = H1 → if c = true then tE G W g σ H' Q else Q v H') hK S1 rv (P1.bind.imp fun r2 H2 c M2 e2 S2 P2 hh => by
      subst hh
      cases c with
      | true => exact ⟨eta, M2, r2, (E.mono e1).mono e2, S2, P2⟩
      | false => exact P2.now S2 v (Rep.mono e2 _ _ rv))
    exact ⟨k, h1, h2 rfl⟩⟩
theorem ev_or (hK : X.K = G.K) {f g : EvE} {a b : Expr} {rest : List Expr} {pos : Pos} (ha : PEv G X W f a) (hb : PEv G X W g (.BoolOp .Or (b :: rest) pos)) : PEv G X W (eOrr f g) (.BoolOp .Or (a :: b :: rest) pos) :=
  PE.weak (pe_orT ha hb) fun σ H Q ⟨eta, M, rho, E, S, P⟩ => ⟨eta, M, rho, E, S, P.bind.imp fun r1 H1 x M1 e1 S1 P1 v rv => by
    obtain ⟨k, h1, h2⟩ := truthD_ok (W := W) (σ := σ) (Q := fun c H' => H' = H1 → if c = true then Q v H' else tE G W g σ H' Q) hK S1 rv (P1.bind.imp fun r2 H2 c M2 e2 S2 P2 hh => by
      subst hh
      cases c with
      | true => exact P2.now S2 v (Rep.mono e2 _ _ rv)
      | false => exact ⟨eta, M2, r2, (E.mono e1).mono e2, S2, P2⟩)
    exact ⟨k, h1, h2 rfl⟩⟩
theorem ev_not (hK : X.K = G.K) {f : EvE} {a : Expr} {pos : Pos} (ha : PEv G X W f a) : PEv G X W (eNt f) (.UnaryOp .Not a pos) :=
  PE.weak (pe_notT ha) fun σ H Q ⟨eta, M, rho, E, S, P⟩ => ⟨eta, M, rho, E, S, P.bind.imp fun r1 H1 x M1 e1 S1 P1 v rv => by
    obtain ⟨k, h1, h2⟩ := truthD_ok (W := W) (σ := σ) (Q := fun c H' => H' = H1 → Q (.bl (!c)) H') hK S1 rv (P1.bind.imp fun r2 H2 c M2 e2 S2 P2 hh => by
      subst hh
      exact P2.now S2 _ (by simp [Rep]))
    exact ⟨k, h1, h2 rfl⟩⟩
def eChn (f g : D → D → Store → Out D) (a b c : EvE) : EvE := fun eta M => (a eta M).bind fun x M1 => (b eta M1).bind fun y M2 => (f x y M2).bind fun z M3 => match z with
  | .bl true => (c eta M3).bind fun w M4 => g y w M4
  | .bl false => .ok (.bl false) M3
  | _ => .bad
theorem chn_ok {f g : D → D → Store → Out D} {r r' : R2} {fa fb fc : EvE} (hs : OpS G f r) (hs' : OpS G g r') {σ : St} {H : Hp} {Q : VK} (h : tE G W (eChn f g fa fb fc) σ H Q) : tChain r r' (tE G W fa) (tE G W fb) (tE G W fc) σ H Q := by
  obtain ⟨eta, M, rho, E, S, P⟩ := h
  refine ⟨eta, M, rho, E, S, P.bind.imp fun r1 H1 x M1 e1 S1 P1 v rv => ⟨eta, M1, r1, E.mono e1, S1, P1.bind.imp fun r2 H2 y M2 e2 S2 P2 w rw' => ?_⟩⟩
  refine hs W σ r2 H2 M2 x y v w _ S2 (Rep.mono e2 _ _ rv) rw' (P2.bind.imp fun r3 H3 z M3 e3 S3 P3 u ru => ?_)
  cases z with
  | bl k =>
    have hu := rep_bl ru
    subst hu
    refine ⟨k, rfl, ?_⟩
    cases k with
    | true => exact ⟨eta, M3, r3, ((E.mono e1).mono e2).mono e3, S3, P3.bind.imp fun r4 H4 w4 M4 e4 S4 P4 v4 rv4 => hs' W σ r4 H4 M4 y w4 w v4 Q S4 (Rep.mono e4 _ _ (Rep.mono e3 _ _ rw')) rv4 P4⟩
    | false => exact P3.now S3 _ (by simp [Rep])
  | _ => exact P3.elim
theorem ev_chn {op op' : CmpOp} {f g : D → D → Store → Out D} {r r' : R2} {fa fb fc : EvE} {a b c : Expr} {pos : Pos} (ho : OpR X (compareOp op) r) (ho' : OpR X (compareOp op') r') (hs : OpS G f r) (hs' : OpS G g r') (ha : PEv G X W fa a) (hb : PEv G X W fb b) (hc : PEv G X W fc c)
    (hm : lastMarks [op, op'] [b, c] = false := by with_unfolding_all rfl) : PEv G X W (eChn f g fa fb fc) (.Compare a [op, op'] [b, c] pos) :=
  PE.weak (pe_chain ho ho' ha hb hc hm) fun σ H Q h => chn_ok hs hs' h
theorem tv_chn {op op' : CmpOp} {f g : D → D → Store → Out D} {r r' : R2} {fa fb fc : EvE} {a b c : Expr} {pos : Pos} (ho : OpR X (compareOp op) r) (ho' : OpR X (compareOp op') r') (hs : OpS G f r) (hs' : OpS G g r') (ha : PEv G X W fa a) (hb : PEv G X W fb b) (hc : PEv G X W fc c)
    (hm : lastMarks [op, op'] [b, c] = false := by with_unfolding_all rfl) : PTv G X W (tOf (eChn f g fa fb fc)) (.Compare a [op, op'] [b, c] pos) :=
  PT.weak (pt_chain ho ho' ha hb hc hm) fun σ H Q ⟨eta, M, rho, E, S, P⟩ => chn_ok hs hs' ⟨eta, M, rho, E, S, P.bind.imp fun r3 H3 z M3 e3 S3 P3 u ru => by
    cases z with
    | bl b => simp only [Rep] at ru; subst ru; exact ⟨b, rfl, P3.now S3⟩
    | _ => exact P3.elim⟩
def dMulI (x y : D) (M : Store) : Out D := match x, y with
  | .int i, .int j => if i.natAbs.log2 + j.natAbs.log2 < 1000000 then .ok (.int (i * j)) M else .bad
  | _, _ => .bad
def dAddI (x y : D) (M : Store) : Out D := match x, y with
  | .int i, .int j => .ok (.int (i + j)) M
  | _, _ => .bad
theorem ds_addI : OpS G dAddI (rI0 fun i j => .int (i + j)) := fun W σ rho H M x y v w Q S rx ry P => by
  cases x <;> cases y <;> try exact P.elim
  rename_i i j
  have h1 := rep_int rx
  have h2 := rep_int ry
  subst h1; subst h2
  exact ⟨i, j, rfl, rfl, good_int S P⟩
end
end Ev
namespace Ev
open PySem L2
def rgD (a b : Int) : List D := (List.range (b - a).toNat).map fun i => D.int (a + (i : Nat))
def rgOut (a b : Int) (M : Store) : Out D := if -(2 ^ 62) ≤ a ∧ a < 2 ^ 62 ∧ -(2 ^ 62) ≤ b ∧ b < 2 ^ 62 ∧ (b - a).toNat ≤ cap then .ok (.ref M.length) (M ++ [.lst (rgD a b)]) else .bad
def rgIn1 (x : D) (M : Store) : Out D := match x with
  | .int j => rgOut 0 j M
  | _ => .bad
def rgIn2 (x y : D) (M : Store) : Out D := match x, y with
  | .int i, .int j => rgOut i j M
  | _, _ => .bad
def eLrg1 (f : EvE) : EvE := fun eta M => (f eta M).bind rgIn1
def eLrg2 (f g : EvE) : EvE := fun eta M => (f eta M).bind fun x M1 => (g eta M1).bind fun y M2 => rgIn2 x y M2
end Ev
namespace Ev
open PySem L2 StX
def itemsS (d : D) (M : Store) : Option (List D) := match d with
  | .tup ds => some ds
  | .ref n => liveAt n M
  | _ => none
def lStar (f : EvE) (g : EvL) : EvL := fun eta M => (f eta M).bind fun d M1 => match itemsS d M1 with
  | some xs => (g eta M1).bind fun ds M2 => .ok (xs ++ ds) M2
  | none => .bad
section
variable {G : Gd} {X : Cx} {W : WX}
theorem lv_star {f : EvE} {g : EvL} {e : Expr} {es : List Expr} {p : Pos} (hK : X.K = G.K) (he : PEv G X W f e) (hes : PLv G X W g es) : PLv G X W (lStar f g) (.Starred e p :: es) :=
  PA.weak (pa_star he hes) fun σ H Q ⟨eta, M, rho, E, S, P⟩ => ⟨eta, M, rho, E, S, P.bind.imp fun r1 H1 x M1 e1 S1 P1 v rv => by
    rw [hK]
    match x, P1, rv with
    | .tup ds, P1, rv =>
      obtain ⟨a, vs, rfl, h1, h2⟩ := rep_tup rv
      simp only [itemsS] at P1
      exact ⟨a, vs, rfl, .inl (SqT.of h1), eta, M1, r1, E.mono e1, S1, P1.bind.imp fun r2 H2 ds M2 e2 S2 P2 ws rws => P2.now S2 _ (Reps.append (Reps.mono e2 _ _ h2) rws)⟩
    | .ref n, P1, rv =>
      obtain ⟨a, rfl, ha⟩ := rep_ref rv
      simp only [itemsS] at P1
      split at P1
      · rename_i es' hl
        obtain ⟨ws, q, rs⟩ := live_rep S1 hl ha
        exact ⟨a, ws, rfl, .inr q, eta, M1, r1, E.mono e1, S1, P1.bind.imp fun r2 H2 ds M2 e2 S2 P2 ws rws => P2.now S2 _ (Reps.append (Reps.mono e2 _ _ rs) rws)⟩
      · exact P1.elim
    | .non, P1, _ => exact P1.elim
    | .bl _, P1, _ => exact P1.elim
    | .int _, P1, _ => exact P1.elim
    | .str _, P1, _ => exact P1.elim
    | .cst _, P1, _ => exact P1.elim
    | .ktp _, P1, _ => exact P1.elim⟩
end
end Ev
namespace Ev
open PySem L2
/-- a pair's value by its name -/
def fldOf (f : Str) : List (Str × D) → Option D
  | [] => none
  | (g, d) :: r => if g = f then some d else fldOf f r
def putFD (f : Str) (d : D) : List (Str × D) → List (Str × D)
  | [] => [(f, d)]
  | (g, x) :: r => if g = f then (g, d) :: r else (g, x) :: putFD f d r
section
variable {K : PySem.W.Frag} {rho : List Addr} {H : Hp} {f : Str}
theorem repKV_cons {x : Str} {d : D} {r : List (Str × D)} {vs : List (Str × V)} (h : RepKV K rho H ((x, d) :: r) vs) : ∃ v ws, vs = (x, v) :: ws ∧ Rep K rho H d v ∧ RepKV K rho H r ws := by
  obtain ⟨h1, h2⟩ := h
  cases vs with
  | nil => simp at h1
  | cons p ws =>
    obtain ⟨y, v⟩ := p
    simp only [List.map_cons, List.cons.injEq] at h1 h2
    obtain ⟨rfl, h1⟩ := h1
    simp only [Reps] at h2
    obtain ⟨w, us, e, h3, h4⟩ := h2
    cases e
    exact ⟨v, ws, rfl, h3, h1, h4⟩
theorem repKV_mk {x : Str} {d : D} {v : V} {r : List (Str × D)} {ws : List (Str × V)} (h : Rep K rho H d v) (h' : RepKV K rho H r ws) : RepKV K rho H ((x, d) :: r) ((x, v) :: ws) :=
  ⟨by simp only [List.map_cons, h'.1], Reps.cons h h'.2⟩
theorem lookup_rep : ∀ {ds : List (Str × D)} {vs : List (Str × V)}, RepKV K rho H ds vs → ∀ d, fldOf f ds = some d → ∃ v, vs.lookup f = some v ∧ Rep K rho H d v
  | [], vs, h, d, e => by simp [fldOf] at e
  | (x, y) :: r, vs, h, d, e => by
    obtain ⟨v, ws, rfl, h1, h2⟩ := repKV_cons h
    unfold fldOf at e
    by_cases hx : x = f
    · rw [if_pos hx] at e; cases e
      subst hx
      exact ⟨v, by simp [List.lookup], h1⟩
    · rw [if_neg hx] at e
      obtain ⟨w, h3, h4⟩ := lookup_rep h2 d e
      refine ⟨w, ?_, h4⟩
      have hb : (f == x) = false := beq_eq_false_iff_ne.mpr (Ne.symm hx)
      simp only [List.lookup, hb, h3]
theorem lookup_no : ∀ {ds : List (Str × D)} {vs : List (Str × V)}, RepKV K rho H ds vs → fldOf f ds = none → vs.lookup f = none
  | [], vs, h, e => by
    have h1 := h.1
    cases vs with
    | nil => rfl
    | cons p ws => simp at h1
  | (x, y) :: r, vs, h, e => by
    obtain ⟨v, ws, rfl, h1, h2⟩ := repKV_cons h
    unfold fldOf at e
    by_cases hx : x = f
    · rw [if_pos hx] at e; cases e
    · rw [if_neg hx] at e
      have hb : (f == x) = false := beq_eq_false_iff_ne.mpr (Ne.symm hx)
      simp only [List.lookup, hb, lookup_no h2 e]
theorem putF_rep {d : D} {v : V} (hv : Rep K rho H d v) : ∀ {ds : List (Str × D)} {vs : List (Str × V)}, RepKV K rho H ds vs → RepKV K rho H (putFD f d ds) (putF f v vs)
  | [], vs, h => by
    have h1 := h.1
    cases vs with
    | nil => exact repKV_mk hv ⟨rfl, Reps.nil⟩
    | cons p ws => simp at h1
  | (x, y) :: r, vs, h => by
    obtain ⟨w, ws, rfl, h1, h2⟩ := repKV_cons h
    unfold putFD putF
    by_cases hx : x = f
    · rw [if_pos hx, if_pos hx]; exact repKV_mk hv h2
    · rw [if_neg hx, if_neg hx]; exact repKV_mk h1 (putF_rep hv h2)
end
def fldD (c : Nat) (f : Str) (x : D) (M : Store) : Out D := match x with
  | .ref n => (match M[n]? with
    | some (.ins c' fs) => if c' = c then (match fldOf f fs with
      | some d => .ok d M
      | none => .bad) else .bad
    | _ => .bad)
  | _ => .bad
def eFld (c : Nat) (f : Str) (g : EvE) : EvE := eUn (fldD c f) g
section
variable {G : Gd} {X : Cx} {W : WX} {c : Nat} {C : Addr} {f : Str}
theorem ev_fld {g : EvE} {e : Expr} {pos : Pos} (hT : G.T[c]? = some C) (hc : Cls X.K C) (hn : NoAttr X.K C f) (ha : PEv G X W g e) (hb : attributeBase e f X.env (eval e X.env) = eval e X.env := by rfl) : PEv G X W (eFld c f g) (.Attribute e f pos) :=
  PE.weak (pe_fld ha hb) fun σ H Q ⟨eta, M, rho, E, S, P⟩ => ⟨eta, M, rho, E, S, P.bind.imp fun r1 H1 x M1 e1 S1 P1 v rv => by
    cases x <;> simp only [fldD] at P1 <;> try exact P1.elim
    obtain ⟨a, rfl, ha⟩ := rep_ref rv
    split at P1
    · rename_i c' fs hm
      split at P1
      · rename_i hcc
        subst hcc
        split at P1
        · rename_i d hd
          obtain ⟨C', dx, vs, h1, h2, h3⟩ := S1.at_ _ a _ ha hm
          rw [hT] at h1; cases h1
          obtain ⟨v, h4, h5⟩ := lookup_rep h3 d hd
          exact ⟨a, C, dx, vs, v, rfl, h2, hc, hn, h4, P1.now S1 v h5⟩
        · exact P1.elim
      · exact P1.elim
    · exact P1.elim⟩
def setFD (c : Nat) (f : Str) (x : D) (v : D) (M : Store) : Out Unit := match x with
  | .ref n => (match M[n]? with
    | some (.ins c' fs) => if c' = c ∧ fs.length < 1000 then .ok () (M.set n (.ins c (putFD f v fs))) else .bad
    | _ => .bad)
  | _ => .bad
def sFldS (c : Nat) (f : Str) (o g : EvE) : EvS := fun eta M => OutS.bindE ((g eta M).bind fun v M1 => (o eta M1).bind fun x M2 => setFD c f x v M2) eta fun _ M3 => .nx eta M3
theorem sv_fld {fo fe : EvE} {o e : Expr} {pos' pos : Pos} (hT : G.T[c]? = some C) (hc : Cls X.K C) (hn : NoAttr X.K C f) (ho : PEv G X W fo o) (he : PEv G X W fe e)
    (hs : swapsWith e (some (.Attribute o f pos')) pos.line X.env = pure false := by rfl) : PSv G X W (sFldS c f fo fe) (.Assign [.Attribute o f pos'] e pos) :=
  PS.weak (ps_fld ho he hs) fun E σ H ⟨eta, M, rho, V, S, P⟩ => by
    refine ⟨eta, M, rho, V, S, (P.bindE V).bind.imp fun r1 H1 d M1 e1 S1 P1 v rv => ⟨eta, M1, r1, V.mono e1, S1, P1.bind.imp fun r2 H2 x M2 e2 S2 P2 ov ro => ?_⟩⟩
    have V2 := (V.mono e1).mono e2
    have rv2 := Rep.mono e2 _ _ rv
    cases x <;> simp only [setFD] at P2 <;> try exact P2.elim
    obtain ⟨a, rfl, ha⟩ := rep_ref ro
    split at P2
    · rename_i c' fs hm
      split at P2
      · rename_i hcc
        obtain ⟨rfl, hl⟩ := hcc
        obtain ⟨C', dx, vs, h1, h2, h3⟩ := S2.at_ _ a _ ha hm
        rw [hT] at h1; cases h1
        have el := h3.2.length
        simp only [List.length_map] at el
        have E0 : Ext r2 H2 r2 (upd H2 a (.ins C dx (putF f v vs))) := Ext.write (by rw [h2]; trivial)
        have S3 := S2.write ha hm (m' := .ins c' (putFD f d fs)) rfl rfl ⟨C, dx, _, hT, upd_same, (putF_rep rv2 h3).mono E0⟩
        exact ⟨a, C, dx, vs, rfl, h2, hc, hn, by omega, P2 r2 _ E0 S3 r2 _ σ (Ext.refl _ _) S3 (V2.mono E0)⟩
      · exact P2.elim
    · exact P2.elim
/-- the object that a method is asked of -/
def isIns (c : Nat) (m : Str) (x : D) (M : Store) : Bool := match x with
  | .ref n => (match M[n]? with
    | some (.ins c' fs) => decide (c' = c) && (fldOf m fs).isNone
    | _ => false)
  | _ => false
def eMeth (T : Tab) (i c : Nat) (m : Str) (o : EvE) (g : EvL) : EvE := fun eta M => (o eta M).bind fun x M1 => if isIns c m x M1 = true then (g eta M1).bind fun ds M2 => T i (x :: ds) M2 else .bad
theorem ins_of {x : D} {M : Store} {m : Str} {rho : List Addr} {H : Hp} {v : V} (hT : G.T[c]? = some C) (S : StR G.K G.T rho H M) (rv : Rep G.K rho H x v) (h : isIns c m x M = true) :
    ∃ a dx fs, v = .ref a ∧ H a = some (.ins C dx fs) ∧ fs.lookup m = none := by
  cases x <;> simp only [isIns, Bool.false_eq_true] at h
  obtain ⟨a, rfl, ha⟩ := rep_ref rv
  split at h
  · rename_i c' fs hm
    simp only [Bool.and_eq_true, decide_eq_true_eq, Option.isNone_iff_eq_none] at h
    obtain ⟨rfl, hn⟩ := h
    obtain ⟨C', dx, vs, h1, h2, h3⟩ := S.at_ _ a _ ha hm
    rw [hT] at h1; cases h1
    exact ⟨a, dx, vs, rfl, h2, lookup_no h3 hn⟩
  · cases h
theorem ev_meth {t : Tab} {i k : Nat} {q : Addr} {m : Str} {fo : EvE} {g : EvL} {apos pos : Pos} {o e : Expr} {es : List Expr} {pl : Sem Bool} (F : FG X.prog X.w X.K X.mg X.base k q (spT G (t i))) (hr : Room k X.A) (hgu : X.A.guards = some []) (tk : Takes X W)
    (hT : G.T[c]? = some C) (hc : Cls X.K C) (hm : Meth X.K C m q) (ho : PEv G X W fo o) (ha : PLv G X W g (e :: es))
    (he : starEach (e :: es) X.env = (false, eval e X.env) :: starEach es X.env := by rfl) (hpl : (backTo pos (starEach es X.env)).any (·.1) = false := by rfl)
    (ht : eval (.Call (.Attribute o m apos) (e :: es) [] pos) X.env = (do
      let ov ← eval o X.env
      standAt apos.atName
      let (f, first) ← holding [ov] (getMethod ov m pl)
      callWith pos f first (backTo pos (starEach (e :: es) X.env)) (backToKw pos (keywordEach [] X.env))) := by rfl) :
    PEv G X W (eMeth t i c m fo g) (.Call (.Attribute o m apos) (e :: es) [] pos) := by
  refine ⟨fun pins s σ H Q I ⟨eta, M, rho, V, S, P⟩ => ?_⟩
  refine PySem.W.methodCall_KW (pl := pl) (thn (ho.run pins s σ H (fun x H1 => ∃ a dx fs, x = .ref a ∧ H1 a = some (.ins C dx fs) ∧ fs.lookup m = none ∧ tL G W g σ H1 fun vs H2 => spT G (t i) (.ref a :: vs) H2 Q fun c d H' => W c d σ H') I
    ⟨eta, M, rho, V, S, P.bind.imp fun r1 H1 x M1 e1 S1 P1 v rv => ?_⟩) fun u s1 ⟨x, H1, I1, rx, a, dx, fs, ex, ea, l, h⟩ => ?_) ht
  · split at P1
    · rename_i hi
      obtain ⟨a, dx, fs, rfl, h1, h2⟩ := ins_of hT S1 rv hi
      refine ⟨a, dx, fs, rfl, h1, h2, eta, M1, r1, V.mono e1, S1, P1.bind.imp fun r2 H2 ds M2 e2 S2 P2 vs rvs => ⟨M2, r2, x :: ds, S2, Reps.cons (Rep.mono e2 _ _ rv) rvs, ?_⟩⟩
      cases hq : t i (x :: ds) M2 with
      | ok d M3 => rw [hq] at P2; exact P2
      | exc y fs M3 => rw [hq] at P2; exact P2
      | bad => rw [hq] at P2; exact P2
    · exact P1.elim
  · subst ex
    obtain rfl : u = Value.ref a := rx
    refine getmeth_ok I1 ea hc hm l ?_
    exact PySem.W.callWith_K (first := [.ref a]) (h₀ := X.base) I.ok.mod.kin hm.kp (thn (ha.run pos pins s1 σ H1 _ I1 h) fun us s2 ⟨vs, H2, I2, r, q2⟩ => ⟨I2.kIn, fg_run (us := .ref a :: us) (vs := .ref a :: vs) F hr hgu tk I2 (.cons rfl r) q2⟩) he hpl
theorem ev_meth0 {t : Tab} {i k : Nat} {q : Addr} {m : Str} {fo : EvE} {apos pos : Pos} {o : Expr} {pl : Sem Bool} (F : FG X.prog X.w X.K X.mg X.base k q (spT G (t i))) (hr : Room k X.A) (hgu : X.A.guards = some []) (tk : Takes X W)
    (hT : G.T[c]? = some C) (hc : Cls X.K C) (hm : Meth X.K C m q) (ho : PEv G X W fo o)
    (ht : eval (.Call (.Attribute o m apos) [] [] pos) X.env = (do
      let ov ← eval o X.env
      standAt apos.atName
      let (f, first) ← holding [ov] (getMethod ov m pl)
      callWith pos f first (backTo pos (starEach [] X.env)) (backToKw pos (keywordEach [] X.env))) := by rfl) :
    PEv G X W (eMeth t i c m fo lNil) (.Call (.Attribute o m apos) [] [] pos) := by
  refine ⟨fun pins s σ H Q I ⟨eta, M, rho, V, S, P⟩ => ?_⟩
  refine PySem.W.methodCall_KW (pl := pl) (thn (ho.run pins s σ H (fun x H1 => ∃ a dx fs, x = .ref a ∧ H1 a = some (.ins C dx fs) ∧ fs.lookup m = none ∧ spT G (t i) [.ref a] H1 Q fun c d H' => W c d σ H') I
    ⟨eta, M, rho, V, S, P.bind.imp fun r1 H1 x M1 e1 S1 P1 v rv => ?_⟩) fun u s1 ⟨x, H1, I1, rx, a, dx, fs, ex, ea, l, h⟩ => ?_) ht
  · split at P1
    · rename_i hi
      obtain ⟨a, dx, fs, rfl, h1, h2⟩ := ins_of hT S1 rv hi
      refine ⟨a, dx, fs, rfl, h1, h2, M1, r1, [x], S1, Reps.cons rv Reps.nil, ?_⟩
      have P2 : Post G W σ r1 H1 (GoodD G.K Q) (t i [x] M1) := P1
      cases hq : t i [x] M1 with
      | ok d M3 => rw [hq] at P2; exact P2
      | exc y fs M3 => rw [hq] at P2; exact P2
      | bad => rw [hq] at P2; exact P2
    · exact P1.elim
  · subst ex
    obtain rfl : u = Value.ref a := rx
    refine getmeth_ok I1 ea hc hm l ?_
    exact PySem.W.callWith_K0 (first := [.ref a]) I1.kIn hm.kp (fg_run (us := [.ref a]) (vs := [.ref a]) F hr hgu tk I1 (.cons rfl .nil) h)
end
/-- what a class answers when it is called: a new object, then its init, that tells nothing -/
def mkOut (c np : Nat) (t0 : List D → Store → Out D) (ds : List D) (M : Store) : Out D :=
  if ds.length = np then (t0 (.ref M.length :: ds) (M ++ [.ins c []])).bind fun d M2 => match d with
    | .non => gc M (.ref M.length) M2
    | _ => .bad
  else .bad
theorem under_guards {A : Around} {C : Addr} {us : List Value} {kw : List (Str × Value)} (h : A.guards = some []) : (A.under (.builtin "type.__call__" ⟨.ref C :: us, kw⟩)).guards = some [] := by
  first | exact h | simpa [Around.under, Code.weight, Code.isCreation, Code.isGuard, Code.isCaller, Code.frames, Code.isFrame, guardIds] using h
theorem fg_mk {G : Gd} {P : Program} {w : World} {mg : Str → Option Value} {base : Heap} {k c np : Nat} {C f : Addr} {t0 ti : List D → Store → Out D} (Y : Mk G.K C f) (hT : G.T[c]? = some C) (F : FG P w G.K mg base k f (spT G t0))
    (hti : ∀ ds M, ti ds M = mkOut c np t0 ds M) : FG P w G.K mg base (k + 1) C (spT G ti) := by
  intro A outer s H us vs Q E hr hgu e0 rv ⟨M, rho, ds, S0, rs, P0⟩
  rw [hti] at P0
  unfold mkOut at P0
  split at P0
  case isFalse => exact P0.elim
  rename_i hlen
  have kin : G.K.In s.heap := e0.mod.kin.keeps fun b o e => (e0.bs b o e).1
  have n0 : H s.heap.objs.size = none := e0.hok.fresh (Nat.le_refl _)
  have n1 : H (s.heap.objs.size + 1) = none := e0.hok.fresh (Nat.le_succ _)
  have ne : s.heap.objs.size ≠ s.heap.objs.size + 1 := Nat.ne_of_lt (Nat.lt_succ_self _)
  have g1 : (s.heap.push PySem.W.emptyDict).get? s.heap.objs.size = some PySem.W.emptyDict := Heap.get?_push_size s.heap rfl
  have g2 : ((s.heap.push PySem.W.emptyDict).push (PySem.W.instObj C s.heap.objs.size)).get? (s.heap.objs.size + 1) = some (PySem.W.instObj C s.heap.objs.size) := by
    have := Heap.get?_push_size (s.heap.push PySem.W.emptyDict) (o := PySem.W.instObj C s.heap.objs.size) rfl
    rwa [Heap.size_push] at this
  have g3 : (s.heap.push PySem.W.emptyDict).Ns s.heap.objs.size (fun _ => none) := ⟨PySem.W.emptyDict, #[], _, g1, rfl, (fun e he => absurd he (by simp)), fun _ => rfl⟩
  have e1 := StX.env0_laid e0 (o := PySem.W.emptyDict) (u := .own (s.heap.objs.size + 1)) ⟨_, g1⟩
  have hs1 : (s.heap.push PySem.W.emptyDict).objs.size = s.heap.objs.size + 1 := Heap.size_push _ _
  have e2 := StX.env0_laid e1 (o := PySem.W.instObj C s.heap.objs.size) (u := .ins C s.heap.objs.size []) (by
    show ObjOk P w (upd (upd H s.heap.objs.size (.own (s.heap.objs.size + 1))) (s.heap.push PySem.W.emptyDict).objs.size (.ins C s.heap.objs.size [])) ((s.heap.push PySem.W.emptyDict).push (PySem.W.instObj C s.heap.objs.size)) (s.heap.push PySem.W.emptyDict).objs.size (.ins C s.heap.objs.size [])
    rw [hs1]
    exact ⟨by rw [upd_ne ne, upd_same], Nat.zero_le _, ne, g2, fun _ => none, (Heap.Ns1.of_empty g3).at fun o q => Heap.get?_push_of_some _ q, fun _ => True.intro, fun y hy => absurd rfl hy⟩)
  have u1 := StX.un_laid (fs := frs outer) (s := s) (o := PySem.W.emptyDict) (u := .own (s.heap.objs.size + 1)) n0
  have n1' : (upd H s.heap.objs.size (.own (s.heap.objs.size + 1))) (s.heap.push PySem.W.emptyDict).objs.size = none := by rw [hs1, upd_ne ne.symm]; exact n1
  have u2 := StX.un_laid (fs := frs outer) (s := { s with heap := s.heap.push PySem.W.emptyDict }) (o := PySem.W.instObj C s.heap.objs.size) (u := .ins C s.heap.objs.size []) n1'
  have un := u1.trans u2
  replace e2 : Env0 P w G.K mg base A outer { s with heap := (s.heap.push PySem.W.emptyDict).push (PySem.W.instObj C s.heap.objs.size) } (upd (upd H s.heap.objs.size (.own (s.heap.objs.size + 1))) (s.heap.objs.size + 1) (.ins C s.heap.objs.size [])) := by
    have z := e2
    simp only [hs1] at z
    exact z
  replace un : Un (frs outer) [] H (upd (upd H s.heap.objs.size (.own (s.heap.objs.size + 1))) (s.heap.objs.size + 1) (.ins C s.heap.objs.size [])) s.heap ((s.heap.push PySem.W.emptyDict).push (PySem.W.instObj C s.heap.objs.size)) := by
    have z := un
    simp only [hs1] at z
    exact z
  have n1'' : (upd H s.heap.objs.size (.own (s.heap.objs.size + 1))) (s.heap.objs.size + 1) = none := by rw [upd_ne ne.symm]; exact n1
  have S1 := S0.laid (u := .own (s.heap.objs.size + 1)) n0
  have S2 := S1.alloc (p := s.heap.objs.size + 1) (u := .ins C s.heap.objs.size []) (m := .ins c []) n1'' ⟨C, _, [], hT, upd_same, rfl, Reps.nil⟩
  have X2 : Ext rho H (rho ++ [s.heap.objs.size + 1]) (upd (upd H s.heap.objs.size (.own (s.heap.objs.size + 1))) (s.heap.objs.size + 1) (.ins C s.heap.objs.size [])) :=
    ((Ext.laid n0).trans (Ext.laid n1'')).trans Ext.grow
  have rs2 : Reps G.K (rho ++ [s.heap.objs.size + 1]) (upd (upd H s.heap.objs.size (.own (s.heap.objs.size + 1))) (s.heap.objs.size + 1) (.ins C s.heap.objs.size [])) (.ref M.length :: ds) (.ref (s.heap.objs.size + 1) :: vs) :=
    Reps.cons (by simp only [Rep]; exact ⟨_, rfl, by rw [← S0.len]; simp⟩) (rs.mono X2)
  have rr : ∀ rho' H', Ext (rho ++ [s.heap.objs.size + 1]) (upd (upd H s.heap.objs.size (.own (s.heap.objs.size + 1))) (s.heap.objs.size + 1) (.ins C s.heap.objs.size [])) rho' H' → Rep G.K rho' H' (.ref M.length) (.ref (s.heap.objs.size + 1)) := fun rho' H' q => by
    simp only [Rep]; exact ⟨_, rfl, q.get (by rw [← S0.len]; simp)⟩
  have hsp : spT G t0 (.ref (s.heap.objs.size + 1) :: vs) (upd (upd H s.heap.objs.size (.own (s.heap.objs.size + 1))) (s.heap.objs.size + 1) (.ins C s.heap.objs.size [])) (fun v H2 => v = .non ∧ Q (.ref (s.heap.objs.size + 1)) H2) E := by
    refine ⟨_, _, _, S2, rs2, ?_⟩
    cases hq : t0 (.ref M.length :: ds) (M ++ [.ins c []]) with
    | ok d M2 =>
      rw [hq] at P0
      simp only [Out.bind] at P0
      intro r1 H1 x1 S3 v rv1
      cases d <;> simp only at P0 <;> try exact P0.elim
      simp only [Rep] at rv1
      refine ⟨rv1, ?_⟩
      obtain ⟨d1, M3, hg⟩ := gc_ok M (.ref M.length) M2
      obtain ⟨r2, x2, S4, R2⟩ := gc_rep S0 S3 (X2.trans x1) (rr r1 H1 x1) hg
      rw [hg] at P0
      exact P0 r2 H1 x2 S4 _ R2
    | exc y fs M2 =>
      rw [hq] at P0
      exact fun r1 H1 cls dd x1 S3 R3 => P0 r1 H1 cls dd (X2.trans x1) S3 R3
    | bad => rw [hq] at P0; exact P0.elim
  refine make_map kin Y.makes Y.init (beq_iff_eq.mp Y.fn) (codeAny_mono (F _ outer _ _ (.ref (s.heap.objs.size + 1) :: us) (.ref (s.heap.objs.size + 1) :: vs) _ E (hr.make C us []) (under_guards hgu) (e2.make C us []) (.cons rfl rv) hsp) fun r s' hq => ?_)
  cases r with
  | error e => exact StX.cxUp outer s H { s with heap := (s.heap.push PySem.W.emptyDict).push (PySem.W.instObj C s.heap.objs.size) } (upd (upd H s.heap.objs.size (.own (s.heap.objs.size + 1))) (s.heap.objs.size + 1) (.ins C s.heap.objs.size [])) E e s' un (fun b o q => Heap.get?_push_of_some _ (Heap.get?_push_of_some _ q)) rfl hq
  | ok fl =>
    cases fl with
    | ret u =>
      obtain ⟨v, H', os, bare, un', hok, r, ev, q⟩ := hq
      subst ev
      exact ⟨r, .ref (s.heap.objs.size + 1), H', os, bare, un.trans un', hok, rfl, q⟩
    | next => exact False.elim hq
    | brk => exact False.elim hq
    | cont => exact False.elim hq
def eNew (c : Nat) : EvE := fun _ M => .ok (.ref M.length) (M ++ [.ins c []])
/-- a call that tells nothing -/
def sInit (f : EvE) : EvS := fun eta M => OutS.bindE (f eta M) eta fun d M1 => match d with
  | .non => .nx eta M1
  | _ => .bad
/-- a class as an entry of the table: al: the new object's name, then the parameters' -/
def sMk (T : Tab) (c ini np : Nat) (al : EvL) : EvS := sSeq (sAsg (.nm np) (eNew c)) (sSeq (sInit (eCall T ini al)) (sRet (eVar np)))
/-- what it answers -/
theorem mk_out {Q : List Fn} {k i c ini np : Nat} {al : EvL} (h : Q[i]? = some ⟨np + 1, np, fun T => sMk T c ini np al⟩) (hal : ∀ (ds : List D) (r : D) (M : Store), ds.length = np → al ((ds.map some ++ [none]).set np (some r)) M = .ok (r :: ds) M)
    (ds : List D) (M : Store) : tabOf Q (k + 1) i ds M = mkOut c np (tabOf Q k ini) ds M := by
  have e1 : tabOf Q (k + 1) i ds M = runFn ⟨np + 1, np, fun T => sMk T c ini np al⟩ (tabOf Q k) ds M := by
    show (match Q[i]? with
      | some F => runFn F (tabOf Q k) ds M
      | none => .bad) = _
    rw [h]
  rw [e1]
  unfold runFn mkOut
  by_cases hl : ds.length = np
  · rw [if_pos hl, if_pos hl]
    have e2 : (List.replicate (np + 1 - np) none : List (Option D)) = [none] := by rw [Nat.add_sub_cancel_left]; rfl
    show finS M (sMk (tabOf Q k) c ini np al (ds.map some ++ List.replicate (np + 1 - np) none) M) = _
    rw [e2]
    have e3 : ((ds.map some ++ [none]).set np (some (D.ref M.length)))[np]? = some (some (.ref M.length)) := by
      rw [List.getElem?_set_self (by simp [hl])]
    unfold sMk sSeq sAsg eNew
    simp only [OutS.bindE, asg]
    unfold sInit eCall
    rw [hal ds _ _ hl]
    simp only [Out.bind]
    cases hq : tabOf Q k ini (.ref M.length :: ds) (M ++ [.ins c []]) with
    | ok d M2 =>
      simp only [OutS.bindE]
      cases d <;> simp only [finS]
      unfold sRet eVar
      rw [e3]
      simp only [OutS.bindE, finS]
    | exc x fs M2 => simp only [OutS.bindE, finS]
    | bad => simp only [OutS.bindE, finS]
  · rw [if_neg hl, if_neg hl]
def ktS (txt : List Str) : D := .ktp (txt.map D.str)
def ConsK (K : PySem.W.Frag) (mg : Str → Option Value) (x : Str) (txt : List Str) : Prop :=
  ∃ (a : Addr) (o : Obj) (its : Array Value) (n : Nat), mg x = some (.ref a) ∧ K.lookup a = some o ∧ o.cls = .type "tuple" ∧ o.data = .seq its n ∧ its.size ≤ sizeLine ∧ Vals (txt.map V.str) its.toList
theorem reps_strs {K : PySem.W.Frag} {rho : List Addr} {H : Hp} : ∀ txt : List Str, Reps K rho H (txt.map D.str) (txt.map V.str)
  | [] => Reps.nil
  | x :: r => Reps.cons (by simp [Rep]) (reps_strs r)
theorem ev_cons {G : Gd} {X : Cx} {W : WX} {x : Str} {txt : List Str} {pos : Pos} (hg : Gl X x) (h : ConsK G.K X.mg x txt) (hd : (x == ("__debug__" : Str)) = false := by decide) : PEv G X W (eC (ktS txt)) (.Name x pos) := by
  obtain ⟨a, o, its, n, h1, h2, h3, h4, h5, h6⟩ := h
  refine ev_glob (v := .ref a) hg h1 rfl (fun rho H => ?_) hd
  simp only [ktS, Rep]
  exact ⟨a, _, rfl, .inr ⟨o, its, n, h2, h3, h4, h5, h6⟩, reps_strs txt⟩
/-- a whole number of the written part -/
theorem ev_cint {G : Gd} {X : Cx} {W : WX} {x : Str} {i : Int} {pos : Pos} (hg : Gl X x) (h : ∃ t, X.mg x = some (.int i t)) (hd : (x == ("__debug__" : Str)) = false := by decide) : PEv G X W (eC (.int i)) (.Name x pos) := by
  obtain ⟨t, h1⟩ := h
  exact ev_glob (v := .int i) hg h1 ⟨t, rfl⟩ (fun rho H => by simp [Rep]) hd
end Ev
namespace Ev
open PySem L2 C8
section
variable {G : Gd} {X : Cx} {W : WX} {c : Nat} {C : Addr}
def insB (c : Nat) (x : D) (M : Store) : Bool := match x with
  | .ref n => (match M[n]? with
    | some (.ins c' _) => decide (c' = c)
    | _ => false)
  | _ => false
theorem insB_of {x : D} {M : Store} {rho : List Addr} {H : Hp} {v : V} (hT : G.T[c]? = some C) (S : StR G.K G.T rho H M) (rv : Rep G.K rho H x v) (h : insB c x M = true) : ∃ a dx fs, v = .ref a ∧ H a = some (.ins C dx fs) := by
  cases x <;> simp only [insB, Bool.false_eq_true] at h
  obtain ⟨a, rfl, ha⟩ := rep_ref rv
  split at h
  · rename_i c' fs hm
    have h := of_decide_eq_true h
    subst h
    obtain ⟨C', dx, vs, h1, h2, h3⟩ := S.at_ _ a _ ha hm
    rw [hT] at h1; cases h1
    exact ⟨a, dx, vs, rfl, h2⟩
  · cases h
def isCD (c : Nat) (x : D) (M : Store) : Out D := if insB c x M = true then .ok (.bl true) M else .bad
/-- isinstance(e, the class c), where it is one -/
def eIsC (c : Nat) (f : EvE) : EvE := eUn (isCD c) f
theorem ev_isC {f : EvE} {e : Expr} {y : Str} {p p2 pos : Pos} (hT : G.T[c]? = some C) (ic : InsC X.K C) (hgC : Gl X y) (hmC : X.mg y = some (.ref C)) (hg : Gl X "isinstance") (hm : X.mg "isinstance" = none) (ha : PEv G X W f e) (hdb : (y == ("__debug__" : Str)) = false := by decide)
    (he : starEach [e, .Name y p2] X.env = (false, eval e X.env) :: starEach [.Name y p2] X.env := by rfl) (hpl : (backTo pos (starEach [.Name y p2] X.env)).any (·.1) = false := by rfl) : PEv G X W (eIsC c f) (.Call (.Name "isinstance" p) [e, .Name y p2] [] pos) :=
  PE.weak (pe_callB (call_isC ic) hg hm rfl (pa_cons ha (hs := he) (pa_cons (pe_glob (v := .ref C) hgC hmC rfl (hd := hdb)) pa_nil)) (he := he) (hpl := hpl)) fun σ H Q ⟨eta, M, rho, V, S, P⟩ => ⟨eta, M, rho, V, S, P.bind.imp fun r1 H1 x M1 e1 S1 P1 v rv => by
    unfold isCD at P1
    split at P1
    · rename_i h
      obtain ⟨a, dx, fs, rfl, h2⟩ := insB_of hT S1 rv h
      exact ⟨a, dx, fs, rfl, h2, P1.now S1 _ (by simp [Rep])⟩
    · exact P1.elim⟩
theorem insC_of {K : PySem.W.Frag} {C : Addr} (cl : Cls K C) (ha : PySem.W.findIn K (.ref C) "__class__" = some (some (.builtin "object.__class__"))) (hn : PySem.W.specialIn K (.builtin "object.__class__") "__get__" = some (some (.builtin "getset_descriptor.__get__"))) (htk : PySem.W.takesIn K (.builtin "object.__class__") = some true) (hm : PySem.W.mroIn K C (.type "object") = some true) : InsC K C :=
  ⟨cl, ha, hn, htk, hm, by simp [PySem.W.kitOne]⟩
end
end Ev
namespace PySem.SeqAt
open PyProof.Rows
end PySem.SeqAt
namespace PySem
open Sem (wp)
open Builtin
end PySem
namespace Ev
open PySem L2
/-- the fields of its instances can be read -/
structure XKf (K : PySem.W.Frag) (XT : List Addr) (i : Nat) (fl : Str) : Prop where
  ex : ∃ C, XT[i]? = some C ∧ XfC K C ∧ PySem.W.findIn K (.ref C) fl = some none
def OutS.noX : OutS → OutS
  | .exc _ _ _ _ => .bad
  | o => o
theorem XKf.at {K : PySem.W.Frag} {XT : List Addr} {i : Nat} {fl : Str} {C : Addr} (Z : XKf K XT i fl) (h : XT[i]? = some C) : XfC K C ∧ PySem.W.findIn K (.ref C) fl = some none := by
  obtain ⟨C', h1, h2⟩ := Z.ex
  rw [h] at h1
  cases h1
  exact h2
theorem fg_zeroK {G : Gd} {P : Program} {w : World} {mg : Str → Option Value} {base : Heap} {k : Nat} {f : Addr} : FG P w G.K mg base k f (spT G fun _ _ => .bad) :=
  fun A outer s H us vs Q E _ _ _ _ ⟨M, rho, ds, _, _, q⟩ => q.elim
end Ev
namespace Ev
open PySem PySem.Spec PyProof.Rows L2
section
variable {P : Program} {w : World} {G : Gd} {mg mb : Str → Option Value} {k : Nat} {fa a : Addr} {cs : List (Addr × Addr)} {t : List D → Store → Out D} {s₁ : Shared} {vs : List Value} {ns : List Int}
/-- what stands at the start: the script and the empty tables -/
structure Lay (G : Gd) (cs : List (Addr × Addr)) (s₁ : Shared) (a : Addr) (ns : List Int) (P : Program) (w : World) (H : Hp) : Prop where
  tab : ∀ p ∈ cs, H p.2 = some (.tbl #[])
  only : ∀ b u, H b = some u → (∃ p ∈ cs, b = p.2) ∨ (b = a ∧ ∃ o xs, u = .frz o (.lst xs))
  scr : FrzL G.K H a (ns.map V.int)
  hok : HOk P w H s₁.heap
  own : H a ≠ none → G.K.lookup a = none
theorem lay_ex (KX : G.K.In s₁.heap) (hT : ∀ p ∈ cs, s₁.heap.get? p.2 = some { cls := .none, data := .fields #[] })
    (ha : s₁.heap.get? a = some { cls := .type "list", data := .seq vs.toArray }) (hi : IntsAre vs ns) (hl : ns.length ≤ sizeLine) : ∃ H, Lay G cs s₁ a ns P w H := by
  have rv := vals_ints hi
  have lenV := hi.length
  have aT : ∀ p ∈ cs, p.2 ≠ a := fun p hp z => by
    have q := hT p hp
    rw [z, ha] at q
    have z' : Data.seq vs.toArray _ = Data.fields #[] := congrArg Obj.data (Option.some.inj q)
    cases z'
  let HT : Hp := fun b => if ∃ p ∈ cs, b = p.2 then some (.tbl #[]) else none
  have hat : ∀ b, (∃ p ∈ cs, b = p.2) → HT b = some (.tbl #[]) := fun b h => if_pos h
  have hno : ∀ b, ¬ (∃ p ∈ cs, b = p.2) → HT b = none := fun b h => if_neg h
  have okT : ∀ b u, HT b = some u → (∃ p ∈ cs, b = p.2) ∧ u = .tbl #[] := fun b u z => by
    by_cases h : ∃ p ∈ cs, b = p.2
    · rw [hat b h] at z; cases z; exact ⟨h, rfl⟩
    · rw [hno b h] at z; cases z
  have naT : HT a = none := hno a fun ⟨p, hp, e⟩ => aT p hp e.symm
  have hokT : ∀ b u, HT b = some u → ObjOk P w HT s₁.heap b u := fun b u z => by
    obtain ⟨⟨p, hp, e⟩, rfl⟩ := okT b u z
    rw [e]; exact hT p hp
  cases hk : G.K.lookup a with
  | some o =>
    have e := KX a o hk
    rw [ha] at e
    cases e
    exact ⟨HT, fun p hp => hat _ ⟨p, hp, rfl⟩, fun b u z => .inl (okT b u z).1, .inr ⟨_, vs.toArray, _, hk, rfl, rfl, rfl, by rw [List.size_toArray, lenV]; exact hl, by simpa using rv⟩, hokT, fun z => absurd naT z⟩
  | none =>
    let o : Obj := { cls := .type "list", data := .seq vs.toArray }
    refine ⟨upd HT a (.frz o (.lst (ns.map V.int))), fun p hp => ?_, fun b u z => ?_, .inl ⟨o, upd_same⟩, fun b u z => ?_, fun _ => hk⟩
    · rw [upd_ne (aT p hp)]; exact hat _ ⟨p, hp, rfl⟩
    · by_cases hb : b = a
      · subst hb
        rw [upd_same] at z; cases z
        exact .inr ⟨rfl, _, _, rfl⟩
      · rw [upd_ne hb] at z
        exact .inl (okT b u z).1
    · by_cases hb : b = a
      · subst hb
        rw [upd_same] at z; cases z
        exact ⟨ha, by rw [List.length_map]; exact hl, vs, _, rv, ha⟩
      · rw [upd_ne hb] at z
        obtain ⟨⟨p, hp, e⟩, rfl⟩ := okT b u z
        rw [e]; exact hT p hp
theorem law_evT (KX : G.K.In s₁.heap) (hns : s₁.heap.Ns mainGlobals mg) (hb : s₁.heap.Ns builtinsNs mb) (hbb : ∀ x : Str, x ≠ "__name__" → mb x = bootBuiltins x) (hlim : s₁.heap.NoLimit) (hg : s₁.gens = #[])
    (hT : ∀ p ∈ cs, s₁.heap.get? p.2 = some { cls := .none, data := .fields #[] }) (nT : ∀ p ∈ cs, G.K.lookup p.2 = none) (C : ∀ p ∈ cs, PySem.W.CodeHd s₁.heap p.1 p.2)
    (hbm : ∃ (bm : Addr) (ob : Obj), mg "__builtins__" = some (.ref bm) ∧ bm ≠ builtinsNs ∧ s₁.heap.get? bm = some ob ∧ ob.cls = .type "module" ∧ ob.dict = some builtinsNs ∧ ob.data = .plain)
    (ha : s₁.heap.get? a = some { cls := .type "list", data := .seq vs.toArray }) (hi : IntsAre vs ns) (hl : ns.length ≤ sizeLine) (hr : Room k callerA) (htb : ∀ p ∈ G.T.tb, ∃ c ∈ cs, p.1 = c.2)
    (F : ∀ base : Heap, G.K.In base → base.Ns mainGlobals mg → (∀ p ∈ cs, LamX.TabB base mg p.1 p.2) → FG P w G.K mg base k fa (spT G t)) (ht : ∃ M, t [.ref 0] [.frz (ns.map D.int)] = .ok (.bl true) M) :
    codeAny (model P w) callerA (.call (.ref fa) ⟨[.ref a], []⟩) (fun r s' => r = .ok (.ret (.bool true)) ∧ OldK s₁.heap s'.heap ∧ s'.os = s₁.os ∧ AllBare s'.gens) s₁ := by
  obtain ⟨H, L⟩ := lay_ex (P := P) (w := w) KX hT ha hi hl
  -- what is neither a list nor an empty record is not tracked
  have free : ∀ {b : Addr} {o : Obj}, s₁.heap.get? b = some o → (∀ vs n, o.data ≠ .seq vs n) → o.data ≠ .fields #[] → H b = none := fun {b o} e h1 h2 => by
    cases q : H b with
    | none => rfl
    | some u =>
      rcases L.only b u q with ⟨p, hp, e'⟩ | ⟨e', _⟩
      · rw [e', hT p hp] at e
        cases e
        exact (h2 rfl).elim
      · rw [e', ha] at e
        cases e
        exact (h1 _ _ rfl).elim
  have up : ∀ {b : Addr} {o : Obj}, s₁.heap.get? b = some o → H b = none → (hidT s₁.heap H).get? b = some o := fun e n => hidT_get e n
  have nsK : ∀ {b : Addr} {m : Str → Option Value}, s₁.heap.Ns b m → (hidT s₁.heap H).Ns b m := fun {b m} ⟨o, es, ep, e, dd, r⟩ => ⟨o, es, ep, up e (free e (fun vs n z => by rw [dd] at z; cases z) fun z => by rw [dd] at z; cases z), dd, r⟩
  have hKb : G.K.In (hidT s₁.heap H) := fun b o e => up (KX b o e) (by
    cases q : H b with
    | none => rfl
    | some u =>
      rcases L.only b u q with ⟨p, hp, e'⟩ | ⟨e', _⟩
      · rw [e', nT p hp] at e; cases e
      · rw [e'] at e q
        rw [L.own (by rw [q]; simp)] at e; cases e)
  have hM : Mod G.K mg (hidT s₁.heap H) := ⟨hKb, nsK hns, ⟨mb, nsK hb, hbb⟩, let ⟨mc, h1, h2⟩ := hlim; ⟨mc, nsK h1, h2⟩⟩
  have TB : ∀ p ∈ cs, LamX.TabB (hidT s₁.heap H) mg p.1 p.2 := fun p hp => by
    have tp := hT p hp
    have nG : mainGlobals ≠ p.2 := fun z => by
      obtain ⟨o, es, ep, e, hd, _⟩ := hns
      rw [z, tp] at e
      cases e
      cases hd
    refine ⟨?_, ?_, nG⟩
    · obtain ⟨o, us, file, tf, flags, tg, inF, text, tt, e1, r1, r2, r3, r⟩ := C p hp
      refine ⟨o, us, file, tf, flags, tg, inF, text, tt, up e1 (free e1 (fun vs n z => by rw [r2] at z; cases z) fun z => ?_), r1, r2, r3, r⟩
      rw [r2] at z
      cases z
      simp at r3
    · obtain ⟨bm, ob, b1, b2, b3, b4, b5, b6⟩ := hbm
      refine ⟨bm, ob, b1, b2, fun q => ?_, fun q => ?_, up b3 (free b3 (fun vs n z => by rw [b6] at z; cases z) fun z => by rw [b6] at z; cases z), b4, b5, b6⟩
      · obtain ⟨o, es, ep, e, hd, _⟩ := hns
        rw [q, e] at b3
        cases b3
        rw [hd] at b6
        cases b6
      · rw [q, tp] at b3
        cases b3
        cases b6
  have e0 : Env0 P w G.K mg (hidT s₁.heap H) callerA [] s₁ H := ⟨rfl, hM, fun b o e => of_hidT e, Nat.le_of_eq (hidT_size _ _), trivial, fun b hb => absurd (show b ∈ ([] : List Addr) from hb) (by simp), L.hok, .of_eq hg⟩
  obtain ⟨M, ht⟩ := ht
  have zero : ∀ {i : Nat} {b : Addr}, ([a] : List Addr)[i]? = some b → i = 0 ∧ b = a := fun {i b} h => by
    match i, h with
    | 0, h => simp at h; exact ⟨rfl, h.symm⟩
  have hst : StR G.K G.T [a] H [.frz (ns.map D.int)] := ⟨rfl, fun i j b o u h1 h2 _ _ _ _ => by rw [(zero h1).1, (zero h2).1], fun i b o h1 h2 => by
    obtain ⟨rfl, rfl⟩ := zero h1
    simp at h2
    subst h2
    exact ⟨_, L.scr, reps_ints ns⟩, fun p hp => by
    obtain ⟨c, hc, e⟩ := htb p hp
    exact LamX.TabS.nil (by rw [e]; exact L.tab c hc)⟩
  have hsp : spT G t [.ref a] H (fun v _ => v = .bl true) fun _ _ _ => False :=
    ⟨[.frz (ns.map D.int)], [a], [.ref 0], hst, by simp [Reps, Rep], by
      rw [ht]
      exact fun r1 H1 e1 S1 v rv1 => rep_bl rv1⟩
  refine codeAny_mono (F _ hKb (nsK hns) TB callerA [] s₁ H [.ref a] [.ref a] _ _ hr rfl e0 (.cons rfl .nil) hsp) fun r s' h => ?_
  match r, h with
  | .error e, h =>
    obtain ⟨_, _, _, _, _, _, _, _, _, _, _, _, hf⟩ := h
    exact hf.elim
  | .ok .next, h => exact False.elim h
  | .ok .brk, h => exact False.elim h
  | .ok .cont, h => exact False.elim h
  | .ok (.ret u), h =>
    obtain ⟨v, H', os, bare, un, hok', r', q⟩ := h
    have q' : v = .bl true := q
    subst q'
    obtain rfl : u = Value.bool true := r'
    have key : ∀ b o, s₁.heap.get? b = some o → (∃ p ∈ cs, b = p.2) ∨ s'.heap.get? b = some o := fun b o e => by
      cases q : H b with
      | none => exact .inr (un.keep b o e q (by intro z; exact absurd (show b ∈ ([] : List Addr) from z) (by simp)) (by simp))
      | some u =>
        rcases L.only b u q with z | ⟨_, ob, xs, rfl⟩
        · exact .inl z
        · obtain ⟨e1, _⟩ := L.hok b _ q
          obtain ⟨e2, _⟩ := hok' b _ (un.frzs b ob _ q)
          rw [e] at e1; cases e1
          exact .inr e2
    have grown : ∀ p ∈ cs, ∃ more : Array Value, s'.heap.get? p.2 = some { cls := .none, data := .fields more } := fun p hp => by
      obtain ⟨more, z⟩ := un.tbls p.2 #[] (L.tab p hp)
      exact ⟨_, hok' p.2 _ z⟩
    refine ⟨rfl, ⟨fun b o e => ?_, fun b o e => ?_⟩, os, bare⟩
    · rcases key b o e with ⟨p, hp, rfl⟩ | z
      · obtain ⟨more, hm⟩ := grown p hp
        rw [hT p hp] at e
        cases e
        exact .inr (.inl ⟨((C p hp).tab (hT p hp)).isCodeTable, rfl, #[], more, rfl, by rw [Array.empty_append]; exact hm⟩)
      · exact .inl z
    · rcases key b o e with ⟨p, hp, rfl⟩ | z
      · obtain ⟨more, hm⟩ := grown p hp
        exact ⟨_, hm⟩
      · exact ⟨o, z⟩
end
/-- walk_ev with tables: names, the defs that make lambdas -/
theorem walk_evT {l : PySem.W.OpenLaw} {n k : Nat} {q : Program} {loose : List Str} {XP : (Str → Option Value) → Heap → Prop} {YP : World → Heap → Prop} {d : DefRec} {K : Params → PySem.W.Frag} {t : List D → Store → Out D}
    (hn : l.most = some n) (hn2 : n ≤ sizeLine) (hdf : d.params.defaults = []) (hr : Room k callerA)
    (hY : ∀ (w : World) (h : Heap), YP w h → (K w.params).In h)
    (F : ∀ (w : World) (mg : Str → Option Value) (fa : Addr) (h : Heap), (K w.params).In h → h.Ns mainGlobals mg → mg d.name = some (.ref fa) →
      ∃ (T : Tt) (XT : List Addr) (cs : List (Addr × Addr)), (∀ p ∈ cs, ∃ (x : Str) (dr : DefRec), (recsOf q).find? (fun e => e.name == x) = some dr ∧ PySem.W.tabIn (K w.params) x = some p) ∧ (∀ p ∈ cs, (K w.params).lookup p.2 = none) ∧ (∀ p ∈ T.tb, ∃ c ∈ cs, p.1 = c.2) ∧
        ∀ base : Heap, (K w.params).In base → base.Ns mainGlobals mg → (∀ p ∈ cs, LamX.TabB base mg p.1 p.2) → FG l.prog w (K w.params) mg base k fa (spT ⟨K w.params, T, XT⟩ t))
    (ht : ∀ ns : List Int, ns.length ≤ n → ∃ M, t [.ref 0] [.frz (ns.map D.int)] = .ok (.bl true) M) :
    PySem.W.WalkO q loose XP YP l.row.toRowW d [] (fun f vs => PySem.call f vs) := by
  refine Att.attach_call hn hdf fun w s₀ s₁ mg mb fa o pm cd doc a vs ns G Y ho hd hcd hmg hobj hints hlen hg => ?_
  have KX := hY w _ Y
  obtain ⟨T, XT, cs, h1, h2, h3, hF⟩ := F w mg fa _ KX G.T.g hmg
  have tb : ∀ p ∈ cs, PySem.W.CodeHd s₁.heap p.1 p.2 ∧ s₁.heap.get? p.2 = some { cls := .none, data := .fields #[] } := fun p hp => by
    obtain ⟨x, dr, e1, e2⟩ := h1 p hp
    exact PySem.W.tab_of G.T KX e1 e2
  exact law_evT (G := ⟨K w.params, T, XT⟩) KX G.T.g G.T.b G.T.builtins G.T.nolimit hg (fun p hp => (tb p hp).2) h2 (fun p hp => (tb p hp).1) G.T.bmain hobj hints (Nat.le_trans hlen hn2) hr h3 hF (ht ns hlen)
/-- a def that makes lambdas: its code object at c, its table at P -/
structure LamOk (G : Gd) (X : Cx) (c P : Addr) : Prop where
  TB : LamX.TabB X.base X.mg c P
  code : X.env.code = .ref c
  mem : (P, X.env.qual ++ "<lambda>") ∈ G.T.tb
  uniq : ∀ p ∈ G.T.tb, p.1 = P → p.2 = X.env.qual ++ "<lambda>"
/-- the same before a def is entered -/
structure LamAt (G : Gd) (base : Heap) (mg : Str → Option Value) (f : Addr) (q : Str) : Prop where
  ex : ∃ c P, LamX.TabB base mg c P ∧ codeOf G.K f = some (.ref c) ∧ (P, q) ∈ G.T.tb ∧ ∀ p ∈ G.T.tb, p.1 = P → p.2 = q
theorem LamAt.ok {G : Gd} {base : Heap} {mg : Str → Option Value} {f : Addr} {q : Str} {cdv : Value} {X : Cx} (L : LamAt G base mg f q) (hc : codeOf G.K f = some cdv) (hb : X.base = base := by rfl) (hm : X.mg = mg := by rfl) (he : X.env.code = cdv := by rfl) (hq : X.env.qual ++ "<lambda>" = q := by rfl) : ∃ c P, LamOk G X c P := by
  obtain ⟨c, P, h1, h2, h3, h4⟩ := L.ex
  rw [hc] at h2
  cases h2
  subst hb; subst hm; subst hq
  exact ⟨c, P, h1, he, h3, h4⟩
theorem codeOf_mk {K : PySem.W.Frag} {f : Addr} {oc : Value} {od : Option Addr} {fd : FuncData} {osl : Array (Option Value)} (l : K.lookup f = some ⟨oc, od, .func fd, osl⟩) : codeOf K f = some fd.code := by unfold codeOf; rw [l]
theorem tabIn_mk {K : PySem.W.Frag} {x : Str} {f c P : Addr} {oc ccl : Value} {od cdd : Option Addr} {fd : FuncData} {osl ccs : Array (Option Value)} {vs : Array Value} (a : PySem.W.nsIn K mainGlobals x = some (some (.ref f))) (l : K.lookup f = some ⟨oc, od, .func fd, osl⟩) (hc : fd.code = .ref c)
    (lc : K.lookup c = some ⟨ccl, cdd, .fields vs, ccs⟩) (v : vs[11]? = some (.ref P)) : PySem.W.tabIn K x = some (c, P) := by
  unfold PySem.W.tabIn
  rw [a]
  simp only [l, hc, lc, v]
end Ev
namespace Ev
open PySem PySem.W PySem.Calls PyProof.Rows
section
variable {prog : Program} {w : World} {A : Around} {E : Value → Shared → Prop} {s : Shared}
/-- p[k] of a local tuple -/
theorem sk_at {env : PySem.Env} {px : Str} {p1 p2 p3 : Pos} {j0 n : Nat} {k : Int} {a : Addr} {its : Array Value} {v : Value} {m : Str → Option Value} {Q : Value → Shared → Prop} (hk : env.scope.kind = .function) (hl : env.kindOf px = some .local) (hdb : (px == ("__debug__" : Str)) = false)
    (hL : s.heap.Ns env.locals m) (hv : m px = some (.ref a)) (ht : IsTup s.heap a its) (h0 : 0 ≤ k) (hi : k < 100) (hx : its[n]? = some v) (hn : seqIndex? k its.size = some n) (h : ∀ tk, Q v { s with toks := tk }) :
    wpAny (model prog w) A (eval (.Subscript (.Name px p1) (.Constant (.int k) j0 p2) p3) env) Q E s := by
  refine Subscript_ (wpAny_Name (wpAny_loadName_local hk hl hL hv ?_) hdb)
  refine wpAny_Constant_int ?_
  have ht' : IsTup ({ s with toks := s.toks + 1 } : Shared).heap a its := ht
  exact subscriptTail_builtinR (x := v) ht'.typeIs slot_tuple_getitem.lookup (getItem_tuple (j := n) (Q := fun r s' => r = v ∧ Q r s') ht' (by omega) (by omega) hn hx ⟨rfl, h _⟩)
/-- -p[k] or 0 - p[k] -/
inductive NegOf (px : Str) (k : Int) : Expr → Prop
  | neg {p1 p2 p3 p4 : Pos} {j : Nat} : NegOf px k (.UnaryOp .USub (.Subscript (.Name px p1) (.Constant (.int k) j p2) p3) p4)
  | sub {p1 p2 p3 p4 p5 : Pos} {i j : Nat} : NegOf px k (.BinOp (.Constant (.int 0) i p5) .Sub (.Subscript (.Name px p1) (.Constant (.int k) j p2) p3) p4)
theorem sk_neg {env : PySem.Env} {px : Str} {e : Expr} {n : Nat} {k b : Int} {a : Addr} {its : Array Value} {tb : Tok} {m : Str → Option Value} {Q : Value → Shared → Prop} (he : NegOf px k e) (hk : env.scope.kind = .function) (hl : env.kindOf px = some .local) (hdb : (px == ("__debug__" : Str)) = false)
    (hL : s.heap.Ns env.locals m) (hv : m px = some (.ref a)) (ht : IsTup s.heap a its) (h0 : 0 ≤ k) (hi : k < 100) (hx : its[n]? = some (.int b tb)) (hn : seqIndex? k its.size = some n) (h : ∀ t tk, Q (.int (-b) t) { s with toks := tk }) :
    wpAny (model prog w) A (eval e env) Q E s := by
  cases he with
  | neg =>
    refine wpAny_UnaryOp (sk_at hk hl hdb hL hv ht h0 hi hx hn fun tk => ?_)
    exact neg_int (h _ _)
  | sub =>
    refine wpAny_BinOp (wpAny_Constant_int ?_)
    refine sk_at (s := { s with toks := s.toks + 1 }) hk hl hdb hL hv ht h0 hi hx hn fun tk => ?_
    refine sub_int ?_
    rw [Int.zero_sub]
    exact h _ _
/-- the key of a pair -/
theorem sk_body {env : PySem.Env} {px : Str} {e2 : Expr} {p1 p2 p3 p8 : Pos} {j0 : Nat} {x1} {a : Addr} {i j : Int} {ti tj : Tok} {its : Array Value} {m : Str → Option Value} {Q : Value → Shared → Prop} (he : NegOf px 1 e2) (hk : env.scope.kind = .function) (hl : env.kindOf px = some .local) (hdb : (px == ("__debug__" : Str)) = false)
    (hL : s.heap.Ns env.locals m) (hv : m px = some (.ref a)) (ht : IsTup s.heap a its) (hi : its = #[.int i ti, .int j tj])
    (hse : starEach [.Subscript (.Name px p1) (.Constant (.int 0) j0 p2) p3, e2] env = [(false, eval (.Subscript (.Name px p1) (.Constant (.int 0) j0 p2) p3) env), (false, eval e2 env)])
    (h : ∀ h' tk v, (∀ b o, s.heap.get? b = some o → h'.get? b = some o) → Reads h' v (.tuple [.int i, .int (-j)]) [] → Q v { s with heap := h', toks := tk }) :
    wpAny (model prog w) A (eval (.Tuple [.Subscript (.Name px p1) (.Constant (.int 0) j0 p2) p3, e2] x1 p8) env) Q E s := by
  subst hi
  refine wpAny_Tuple_spliced ?_
  rw [hse]
  show wpAny _ _ (spliced [(false, eval (.Subscript (.Name px p1) (.Constant (.int 0) j0 p2) p3) env), (false, eval e2 env)]) _ _ _
  refine spliced_cons (sk_at hk hl hdb hL hv ht (by decide) (by decide) (n := 0) (v := .int i ti) rfl rfl fun tk => ?_)
  refine spliced_cons (sk_neg (s := { s with toks := tk }) he hk hl hdb hL hv ht (by decide) (by decide) (n := 1) rfl rfl fun t tk2 => ?_)
  refine spliced_nil ⟨by show 2 ≤ sizeLine; rw [sizeLine_eq]; omega, ?_⟩
  refine h _ tk2 _ (fun b o e => Heap.get?_push_of_some _ e) ?_
  exact .tuple (Heap.get?_push_size _ rfl) rfl rfl (.cons (.int _ _) (.cons (.int _ _) .nil))
/-- a turn: the lambda called with a pair -/
theorem sk_turn {f c' a : Addr} {q px : Str} {params : Arguments} {scope : Scope} {pm ctv : Value} {e2 : Expr} {p1 p2 p3 p8 : Pos} {j0 : Nat} {x1} {i j : Int} {ti tj : Tok} {its : Array Value} (he : NegOf px 1 e2)
    (hd : A.depth < recursionLimit) (lim : s.heap.NoLimit)
    (hf : s.heap.get? f = some (kla_obj "<lambda>" q params (.Tuple [.Subscript (.Name px p1) (.Constant (.int 0) j0 p2) p3, e2] x1 p8) scope [] pm c' ctv)) (hc : ∃ (oc : Obj) (vs : Array Value) (t : Tok), s.heap.get? c' = some oc ∧ oc.data = .fields vs ∧ vs[1]? = some (.str q t))
    (hb : bindArgs (kla_fn "<lambda>" q params (.Tuple [.Subscript (.Name px p1) (.Constant (.int 0) j0 p2) p3, e2] x1 p8) scope [] pm (.ref c') ctv) ⟨[.ref a], []⟩ = pure [(px, .ref a)])
    (hk : scope.kind = .function) (hco : scope.isCoroutine = false) (hgen : scope.isGenerator = false) (hcell : ∀ y ∈ scope.names, y.2 ≠ .cell) (hl : scope.names.lookup px = some .local) (hdb : (px == ("__debug__" : Str)) = false)
    (hse : ∀ env : PySem.Env, starEach [.Subscript (.Name px p1) (.Constant (.int 0) j0 p2) p3, e2] env = [(false, eval (.Subscript (.Name px p1) (.Constant (.int 0) j0 p2) p3) env), (false, eval e2 env)])
    (ht : IsTup s.heap a its) (hi : its = #[.int i ti, .int j tj]) :
    wpAny (model prog w) A (call (.ref f) [.ref a]) (KeyPure (.tuple [.int i, .int (-j)]) s) (fun _ _ => False) s := by
  obtain ⟨oc, vs, t, hoc, hdc, hvc⟩ := hc
  refine wpAny_call (kla_callFunE hd hf rfl hco hgen rfl ⟨c', oc, vs, t, rfl, hoc, hdc, hvc⟩ ?_)
  rw [hb]
  refine wpAny_pure (wpAny_newFunctionEnv hcell (fun y hy => by
    simp only [List.mem_singleton] at hy
    subst hy
    exact hl) (fun h₁ hns hsb => ⟨lim.fresh _ hsb, ?_⟩) hk)
  have kp : ∀ b o, s.heap.get? b = some o → h₁.get? b = some o := fun b o e => hsb.extBut b o (Nat.ne_of_lt (Heap.lt_size e)) (Heap.get?_push_of_some _ e)
  refine kla_codeExpr ?_
  refine sk_body (s := { s with heap := h₁, toks := _ }) he hk hl hdb hns (by simp [List.lookup]) (ht.keeps kp) hi (hse _) fun h' tk v k r => ?_
  exact ⟨h', tk, rfl, fun b o e => k b o (kp b o e), r⟩
end
end Ev
namespace Ev
open PySem PySem.Spec PyProof.Rows L2
/-- the order -/
def skLe {β : Type} (key : β → Int × Int) : β → β → Bool := fun p q => decide ((key p).1 < (key q).1 ∨ ((key p).1 = (key q).1 ∧ -(key p).2 ≤ -(key q).2))
theorem each_vals {β : Type} {R : Value → β → Prop} {vv : β → V} (hR : ∀ v x, R v x → L2.RelV (vv x) v) : ∀ {vs : List Value} {bs : List β}, PySem.W.EachIs R vs bs → Vals (bs.map vv) vs
  | _, _, .nil => .nil
  | _, _, .cons h r => .cons (hR _ _ h) (each_vals hR r)
theorem vals_each {β : Type} {R : Value → β → Prop} {vv : β → V} : ∀ {vs : List Value} {bs : List β}, Vals (bs.map vv) vs → (∀ x ∈ bs, ∀ v, L2.RelV (vv x) v → R v x) → PySem.W.EachIs R vs bs
  | _, [], h, _ => by cases h; exact .nil
  | _, b :: bs, h, k => by
    cases h with
    | cons h1 h2 => exact .cons (k b (List.mem_cons_self ..) _ h1) (vals_each h2 fun x hx => k x (List.mem_cons_of_mem _ hx))
theorem rd_extN {H H' : Hp} (e : LamX.ExtN H H') {a : Addr} {u : HO} (n : ∀ ps, u ≠ .tbl ps) (h : Rd H a u) : Rd H' a u := by
  rcases h with h | ⟨o, h⟩
  · exact .inl (e _ _ h n)
  · exact .inr ⟨o, e _ _ h fun ps z => by cases z⟩
theorem sqL_extN {K : PySem.W.Frag} {H H' : Hp} (e : LamX.ExtN H H') {a : Addr} {xs : List V} (h : SqL K H a xs) : SqL K H' a xs := by
  rcases h with h | h
  · exact .inl (rd_extN e (fun ps z => by cases z) h)
  · exact .inr h
theorem sqT_extN {K : PySem.W.Frag} {H H' : Hp} (e : LamX.ExtN H H') {a : Addr} {xs : List V} (h : SqT K H a xs) : SqT K H' a xs := by
  rcases h with h | h
  · exact .inl (rd_extN e (fun ps z => by cases z) h)
  · exact .inr h
/-- what the lambda's text says -/
structure SkLam (X : Cx) (params : Arguments) (body : Expr) (scope : Scope) : Prop where
  ex : ∃ (px : Str) (e2 : Expr) (p1 p2 p3 p8 : Pos) (j0 : Nat) (x1 : _), body = .Tuple [.Subscript (.Name px p1) (.Constant (.int 0) j0 p2) p3, e2] x1 p8 ∧ NegOf px 1 e2 ∧
    (∀ (q : Str) (pm cv ctv v : Value), bindArgs (PySem.W.kla_fn "<lambda>" q params body scope [] pm cv ctv) ⟨[v], []⟩ = pure [(px, v)]) ∧
    scope.kind = .function ∧ scope.isCoroutine = false ∧ scope.isGenerator = false ∧ (∀ y ∈ scope.names, y.2 ≠ .cell) ∧ scope.names.lookup px = some .local ∧ (px == ("__debug__" : Str)) = false ∧
    (∀ env : PySem.Env, starEach [.Subscript (.Name px p1) (.Constant (.int 0) j0 p2) p3, e2] env = [(false, eval (.Subscript (.Name px p1) (.Constant (.int 0) j0 p2) p3) env), (false, eval e2 env)])
  clo : cloFrom X.env.cells scope.names [] = []
  free : ∀ y ∈ scope.names, y.2 = .free → ∃ c, X.env.cells.lookup y.1 = some c
  dflt : defaultsOf params X.env = ([], [])
/-- the reading of sorted(xs, key=lambda ..) -/
def tSortK (K : PySem.W.Frag) (tb : List (Addr × Str)) (te : TE) : TE := fun σ H Q => te σ H fun x H1 => LamX.Tabs tb H1 ∧ ∃ (β : Type) (key : β → Int × Int) (vv : β → V) (zs : List β) (l : Addr), x = .ref l ∧ SqL K H1 l (zs.map vv) ∧ (∀ z ∈ zs, ∃ a, vv z = .ref a ∧ SqT K H1 a [.int (key z).1, .int (key z).2]) ∧
  ∀ H2 p, LamX.ExtN H1 H2 → LamX.Tabs tb H2 → H2 p = none → Q (.ref p) (upd H2 p (.lst ((zs.mergeSort (skLe key)).map vv)))
theorem pe_sortK {X : Cx} {tb : List (Addr × Str)} {c P : Addr} {e : Expr} {te : TE} {params : Arguments} {body : Expr} {scope : Scope} {p lpos kpos pos : Pos} {k : Nat} (he : PE X e te) (S : SkLam X params body scope) (hr : Room (k + 2) X.A) (hg : Gl X "sorted") (hm : X.mg "sorted" = none) (hv : bootBuiltins "sorted" = some (.builtin "sorted"))
    (TB : LamX.TabB X.base X.mg c P) (hcode : X.env.code = .ref c) (hmT : (P, X.env.qual ++ "<lambda>") ∈ tb) (hu : ∀ p ∈ tb, p.1 = P → p.2 = X.env.qual ++ "<lambda>")
    (hse0 : starEach [e] X.env = (false, eval e X.env) :: starEach [] X.env := by rfl) (hse : backTo pos (starEach [e] X.env) = (false, eval e X.env) :: backTo pos (starEach [] X.env) := by rfl) (hpl : (backTo pos (starEach [e] X.env)).any (·.1) = false := by rfl) :
    PE X (.Call (.Name "sorted" p) [e] [⟨some "key", .Lambda params body scope lpos, kpos⟩] pos) (tSortK X.K tb te) := by
  obtain ⟨px, e2, p1, p2, p3, p8, j0, x1, hbody, hneg, hbind, hk1, hk2, hk3, hk4, hk5, hk6, hk7⟩ := S.ex
  refine ⟨fun pins s σ H Q I h => ?_⟩
  refine wpAny_Call_Name_kw (ld_blt I hg hm hv ?_ (by decide) (by decide))
  refine PyProof.Rows.callWith_kw (thn ((pa_cons (hs := hse0) he pa_nil).run pos pins s σ H (fun vs H1 => match vs with
    | [x] => LamX.Tabs tb H1 ∧ ∃ (β : Type) (key : β → Int × Int) (vv : β → V) (zs : List β) (l : Addr), x = .ref l ∧ SqL X.K H1 l (zs.map vv) ∧ (∀ z ∈ zs, ∃ a, vv z = .ref a ∧ SqT X.K H1 a [.int (key z).1, .int (key z).2]) ∧
    ∀ H2 p, LamX.ExtN H1 H2 → LamX.Tabs tb H2 → H2 p = none → Q (.ref p) (upd H2 p (.lst ((zs.mergeSort (skLe key)).map vv)))
    | _ => False) I ?_) fun us s1 ⟨vs, H1, I1, r1, q1⟩ => ?_) hse hpl (by rfl) (by rfl)
  · exact h
  match vs, q1 with
  | [x], ⟨hT, β, key, vv, zs, l, hx, hl, hz, q⟩ =>
  subst hx
  obtain ⟨u, rfl, ru⟩ := vals1 r1
  obtain rfl : u = Value.ref l := ru
  show wpAny _ _ (evalAll ((do let v ← eval (.Lambda params body scope lpos) X.env; standAt pos; pure v) :: [])) _ _ s1
  refine wpAny_evalAll_cons (wpAny_bind (LamX.lam_make2 I1 TB hcode hmT hu hT S.dflt S.free fun f c' pm ctv H2 s2 I2 eN T2 hf hfn hfr hco => wpAny_bind (wpAny_standAt (wpAny_pure ?_))))
  refine wpAny_evalAll_nil ?_
  show wpAny _ _ (call (.builtin "sorted") [.ref l] [(Str.ofString "key", .ref f)]) _ _ _
  rw [S.clo] at hf
  have I2t : L2.Inv X pins σ H2 s2 := I2
  have hl2 : SqL X.K H2 l (zs.map vv) := sqL_extN eN hl
  obtain ⟨its, rv, il, hzl⟩ := I2.list hl2
  have hlen : zs.length ≤ sizeLine := by rw [List.length_map] at hzl; exact hzl
  have hit : ∀ z ∈ zs, ∀ v, L2.RelV (vv z) v → ∃ (a : Addr) (ti tj : Tok), v = .ref a ∧ vv z = .ref a ∧ IsTup s2.heap a #[.int (key z).1 ti, .int (key z).2 tj] := fun z hz' v rv' => by
    obtain ⟨a, e1, e2⟩ := hz z hz'
    rw [e1] at rv'
    obtain rfl : v = Value.ref a := rv'
    obtain ⟨jt, r2, ht, _⟩ := I2.tuple (sqT_extN eN e2)
    cases r2 with
    | cons r3 r4 =>
    cases r4 with
    | cons r4 r5 =>
    cases r5
    obtain ⟨ti, rfl⟩ := r3
    obtain ⟨tj, rfl⟩ := r4
    exact ⟨a, ti, tj, rfl, e1, ht⟩
  have e : PySem.W.EachIs (fun v z => z ∈ zs ∧ L2.RelV (vv z) v) its zs := vals_each rv fun z hz' v r => ⟨hz', r⟩
  refine PySem.W.sorted_key_data (b := false) (fun z => .tuple [.int (key z).1, .int (-(key z).2)]) il.isList e (PySem.W.AllAlike.of fun _ _ => by simp [PySem.W.alike, PySem.W.alikeAll]) (PySem.W.Sortable.tuples fun _ => ⟨_, _, rfl⟩) hlen (fun z _ => ?_) (ksk_s1 _ _) (fun _ => ksk_l1 _ _) (fun _ => ksk_t1 _ _)
    (fun v z hR _ h tk kp => ?_) fun out ep h' tk kp _ hD hlo eo => ?_
  · have hd : (PyData.tuple [.int (key z).1, .int (-(key z).2)]).depth = 1 := by simp [PyData.depth, PyData.depthAll]
    have := hr.units
    omega
  · obtain ⟨a, ti, tj, rfl, _, ht⟩ := hit z hR.1 v hR.2
    subst hbody
    obtain ⟨⟨oc, ws, t, hoc, hdc, hvc⟩, _, _⟩ := I2.hok c' _ hco
    exact sk_turn (s := { s2 with heap := h, toks := tk }) hneg (show X.A.in1.in1.depth < recursionLimit from hr.depth) (I2.nolimit.keeps kp) (kp _ _ hf) ⟨oc, ws, t, kp _ _ hoc, hdc, hvc⟩ (hbind _ _ _ _ _) hk1 hk2 hk3 hk4 hk5 hk6 hk7 (ht.keeps kp) rfl
  · have hd2 : PySem.W.dataLe false (fun z => .tuple [.int (key z).1, .int (-(key z).2)]) = skLe key := PySem.W.dataLe_ii (fun z => (key z).1) (fun z => -(key z).2)
    rw [hd2] at eo
    have vo : Vals ((zs.mergeSort (skLe key)).map vv) out := each_vals (fun v z hR => hR.2) eo
    refine ⟨.ref _, upd H2 (s2.heap.objs.size + 1) (.lst ((zs.mergeSort (skLe key)).map vv)), I2.laid (t' := tk) (fun b o e => kp b o e) (Nat.le_succ _) ⟨by rw [vo.length, hlo]; exact hlen, _, ep, vo, hD⟩, rfl, q H2 _ eN T2 (I2.hok.fresh (Nat.le_succ _))⟩
def pD (p : Int × Int) : D := .tup [.int p.1, .int p.2]
def pairD : D → Option (Int × Int)
  | .tup [.int i, .int j] => some (i, j)
  | _ => none
def pairsD : List D → Option (List (Int × Int))
  | [] => some []
  | d :: ds => match pairD d, pairsD ds with
    | some p, some ps => some (p :: ps)
    | _, _ => none
theorem pairD_eq {d : D} {p : Int × Int} (h : pairD d = some p) : d = pD p := by
  unfold pairD at h
  split at h
  · cases h; rfl
  · cases h
def bSortK (ds : List D) (M : Store) : Out D := match ds with
  | [.ref n] => (match liveAt n M with
    | some es => (match pairsD es with
      | some ps => .ok (.ref M.length) (M ++ [.lst ((ps.mergeSort (skLe id)).map pD)])
      | none => .bad)
    | none => .bad)
  | _ => .bad
theorem pairs_rep {K : PySem.W.Frag} {rho : List Addr} {H : Hp} : ∀ {ds : List D} {vs : List V} {ps : List (Int × Int)}, Reps K rho H ds vs → pairsD ds = some ps → ∃ zs : List ((Int × Int) × V), zs.map (·.1) = ps ∧ zs.map (·.2) = vs ∧ ∀ z ∈ zs, Rep K rho H (pD z.1) z.2
  | [], vs, ps, r, h => by
    simp only [Reps] at r
    simp only [pairsD, Option.some.injEq] at h
    subst r; subst h
    exact ⟨[], rfl, rfl, fun z hz => by cases hz⟩
  | d :: ds, vs, ps, r, h => by
    simp only [Reps] at r
    obtain ⟨v, ws, rfl, r1, r2⟩ := r
    simp only [pairsD] at h
    split at h
    · rename_i p qs h1 h2
      cases h
      obtain ⟨zs, e1, e2, e3⟩ := pairs_rep r2 h2
      refine ⟨(p, v) :: zs, by simp [e1], by simp [e2], fun z hz => ?_⟩
      rcases List.mem_cons.mp hz with rfl | hz
      · exact pairD_eq h1 ▸ r1
      · exact e3 z hz
    · cases h
theorem reps_map {K : PySem.W.Frag} {rho : List Addr} {H : Hp} {β : Type} {f : β → D} {g : β → V} : ∀ {l : List β}, (∀ z ∈ l, Rep K rho H (f z) (g z)) → Reps K rho H (l.map f) (l.map g)
  | [], _ => Reps.nil
  | z :: l, h => Reps.cons (h z (List.mem_cons_self ..)) (reps_map fun y hy => h y (List.mem_cons_of_mem _ hy))
theorem RepO.live {K : PySem.W.Frag} {T : Tt} {rho : List Addr} {H H' : Hp} {a : Addr} {o : MO} (h : RepO K T rho H a o) (hf : o.isFrz = false) (eN : LamX.ExtN H H') : H' a = H a := by
  obtain ⟨u, hu, _⟩ := h.there hf
  rw [hu]
  exact eN _ _ hu (obj_not h hf hu).1
/-- a lambda was made -/
theorem Ext.lam {rho : List Addr} {H H' : Hp} (eN : LamX.ExtN H H') : Ext rho H rho H' := ⟨List.prefix_refl _, fun b xs h => eN b _ h fun ps z => (by cases z), fun b o u h => eN b _ h fun ps z => (by cases z)⟩
theorem StR.lam {K : PySem.W.Frag} {T : Tt} {rho : List Addr} {H H' : Hp} {M : Store} (S : StR K T rho H M) (eN : LamX.ExtN H H') (t : LamX.Tabs T.tb H') : StR K T rho H' M :=
  ⟨S.len, S.inj, fun n a o h1 h2 => (S.at_ n a o h1 h2).mono (Ext.lam eN) fun hf => (S.at_ n a o h1 h2).live hf eN, t⟩
theorem sort_map {β γ : Type} {f : β → γ} {r : β → β → Bool} {q : γ → γ → Bool} (h : ∀ a b, r a b = q (f a) (f b)) (l : List β) : (l.mergeSort r).map f = (l.map f).mergeSort q := List.map_mergeSort fun a _ b _ => h a b
section
variable {G : Gd} {X : Cx} {W : WX}
theorem ev_sortK {c P : Addr} {f : EvE} {e : Expr} {params : Arguments} {body : Expr} {scope : Scope} {p lpos kpos pos : Pos} {k : Nat} (hK : X.K = G.K) (he : PEv G X W f e) (S : SkLam X params body scope) (hr : Room (k + 2) X.A) (hm : X.mg "sorted" = none) (hv : bootBuiltins "sorted" = some (.builtin "sorted"))
    (TB : LamX.TabB X.base X.mg c P) (hcode : X.env.code = .ref c) (hmT : (P, X.env.qual ++ "<lambda>") ∈ G.T.tb) (hu : ∀ p ∈ G.T.tb, p.1 = P → p.2 = X.env.qual ++ "<lambda>") (hg : Gl X "sorted" := by rfl)
    (hse0 : starEach [e] X.env = (false, eval e X.env) :: starEach [] X.env := by rfl) (hse : backTo pos (starEach [e] X.env) = (false, eval e X.env) :: backTo pos (starEach [] X.env) := by rfl) (hpl : (backTo pos (starEach [e] X.env)).any (·.1) = false := by rfl) :
    PEv G X W (eB bSortK (lCons f lNil)) (.Call (.Name "sorted" p) [e] [⟨some "key", .Lambda params body scope lpos, kpos⟩] pos) :=
  PE.weak (pe_sortK (tb := G.T.tb) he S hr hg hm hv TB hcode hmT hu hse0 hse hpl) fun σ H Q ⟨eta, M, rho, EE, S0, P0⟩ => by
    have P1 : Post G W σ rho H (GoodD G.K Q) ((f eta M).bind fun x M1 => bSortK [x] M1) := by
      have e1 : eB bSortK (lCons f lNil) eta M = (f eta M).bind fun x M1 => bSortK [x] M1 := by
        unfold eB lCons lNil
        cases f eta M <;> rfl
      rw [← e1]; exact P0
    refine ⟨eta, M, rho, EE, S0, P1.bind.imp fun r1 H1 x M1 e1 S1 P2 v rv => ⟨S1.tabs, ?_⟩⟩
    cases x with
    | ref n =>
      simp only [bSortK] at P2
      split at P2
      · rename_i es hl
        split at P2
        · rename_i ps hp
          obtain ⟨a, rfl, ha⟩ := rep_ref rv
          obtain ⟨vs, q1, rs⟩ := live_rep S1 hl ha
          obtain ⟨zs, z1, z2, z3⟩ := pairs_rep rs hp
          subst z1; subst z2
          refine ⟨(Int × Int) × V, (·.1), (·.2), zs, a, rfl, by rw [hK]; exact q1, fun z hz => ?_, fun H2 pp eN T2 hp2 => ?_⟩
          · obtain ⟨b, ws, hb, h1, h2⟩ := rep_tup (z3 z hz)
            obtain ⟨u, w, rfl, ru, rw'⟩ := h2.two
            simp only [Rep] at ru rw'
            subst ru; subst rw'
            exact ⟨b, hb, SqT.of h1⟩
          · have hs : (zs.mergeSort (skLe (·.1))).map (fun z => pD z.1) = ((zs.map (·.1)).mergeSort (skLe id)).map pD := by
              rw [← sort_map (f := fun z : (Int × Int) × V => z.1) (r := skLe (·.1)) (q := skLe id) (fun a b => rfl), List.map_map]
              rfl
            have S2 := S1.lam eN T2
            have E2 : Ext r1 H1 (r1 ++ [pp]) (upd H2 pp (.lst ((zs.mergeSort (skLe (·.1))).map (·.2)))) := (Ext.lam eN).trans ((Ext.laid hp2).trans Ext.grow)
            refine P2 (r1 ++ [pp]) _ E2 (S2.alloc hp2 ⟨_, upd_same, ?_⟩) (.ref pp) ?_
            · rw [← hs]
              exact reps_map fun z hz => Rep.mono E2 _ _ (z3 z (List.mem_mergeSort.mp hz))
            · simp only [Rep]
              exact ⟨pp, rfl, by rw [← S1.len, List.getElem?_append_right (Nat.le_refl _)]; simp⟩
        · exact P2.elim
      · exact P2.elim
    | non => exact P2.elim
    | bl b => exact P2.elim
    | int b => exact P2.elim
    | str b => exact P2.elim
    | tup b => exact P2.elim
    | cst b => exact P2.elim
    | ktp b => exact P2.elim
end
theorem skl_by {X : Cx} {params : Arguments} {scope : Scope} {px : Str} {e2 : Expr} {p1 p2 p3 p8 : Pos} {j0 : Nat} {x1} (he : NegOf px 1 e2)
    (hb : ∀ (q : Str) (pm cv ctv v : Value), bindArgs (PySem.W.kla_fn "<lambda>" q params (.Tuple [.Subscript (.Name px p1) (.Constant (.int 0) j0 p2) p3, e2] x1 p8) scope [] pm cv ctv) ⟨[v], []⟩ = pure [(px, v)] := by intros; rfl)
    (hk : scope.kind = .function := by rfl) (hco : scope.isCoroutine = false := by rfl) (hgen : scope.isGenerator = false := by rfl) (hcell : ∀ y ∈ scope.names, y.2 ≠ .cell ∧ y.2 ≠ .free := by decide) (hl : scope.names.lookup px = some .local := by rfl) (hdb : (px == ("__debug__" : Str)) = false := by decide)
    (hse : ∀ env : PySem.Env, starEach [.Subscript (.Name px p1) (.Constant (.int 0) j0 p2) p3, e2] env = [(false, eval (.Subscript (.Name px p1) (.Constant (.int 0) j0 p2) p3) env), (false, eval e2 env)] := by intro; rfl)
    (clo : cloFrom X.env.cells scope.names [] = [] := by rfl) (dflt : defaultsOf params X.env = ([], []) := by rfl) : SkLam X params (.Tuple [.Subscript (.Name px p1) (.Constant (.int 0) j0 p2) p3, e2] x1 p8) scope :=
  ⟨⟨px, e2, p1, p2, p3, p8, j0, x1, rfl, he, hb, hk, hco, hgen, fun y hy => (hcell y hy).1, hl, hdb, hse⟩, clo, fun y hy e => absurd e (hcell y hy).2, dflt⟩
theorem ev_sortKL {G : Gd} {X : Cx} {W : WX} {c P : Addr} {f : EvE} {e : Expr} {params : Arguments} {body : Expr} {scope : Scope} {p lpos kpos pos : Pos} {k : Nat} (ok : Okk G X (k + 2)) (lam : LamOk G X c P) (he : PEv G X W f e) (S : SkLam X params body scope) (hm : X.mg "sorted" = none) (hv : bootBuiltins "sorted" = some (.builtin "sorted"))
    (hg : Gl X "sorted" := by rfl)
    (hse0 : starEach [e] X.env = (false, eval e X.env) :: starEach [] X.env := by rfl) (hse : backTo pos (starEach [e] X.env) = (false, eval e X.env) :: backTo pos (starEach [] X.env) := by rfl) (hpl : (backTo pos (starEach [e] X.env)).any (·.1) = false := by rfl) :
    PEv G X W (eB bSortK (lCons f lNil)) (.Call (.Name "sorted" p) [e] [⟨some "key", .Lambda params body scope lpos, kpos⟩] pos) :=
  ev_sortK ok.hK he S ok.room hm hv lam.TB lam.code lam.mem lam.uniq hg hse0 hse hpl
end Ev
namespace Ev
open PySem PySem.Spec PyProof.Rows L2
def topAt (i : Nat) : Stmt := PySem.Challenge.pw_lumpplans_k31_pressed_by_hand.main.body.getD i (.Pass ⟨0, 0, 0, 0⟩)
def clsAt (i j : Nat) : Stmt := match topAt i with
  | .ClassDef _ _ _ b _ _ _ _ _ _ _ => b.getD j (.Pass ⟨0, 0, 0, 0⟩)
  | _ => .Pass ⟨0, 0, 0, 0⟩
abbrev st0 : Stmt := topAt 6
abbrev nm0 : List Str := ["value"]
/-- is_integer -/
def d0 (t : Tab) : EvS :=
  sRet (eAn (eB bIsi (lCons (eVar 0) (lCons (eC (.cst (.ty "int"))) (lNil)))) (eNt (eB bIsi (lCons (eVar 0) (lCons (eC (.cst (.ty "bool"))) (lNil))))))
abbrev st1 : Stmt := topAt 7
abbrev nm1 : List Str := ["value"]
/-- is_number -/
def d1 (t : Tab) : EvS :=
  sRet (eAn (eCall t 0 (lCons (eVar 0) (lNil))) (eBin dGe (eVar 0) (eC (.int 0))))
abbrev st2 : Stmt := topAt 9
abbrev nm2 : List Str := ["value", "side", "part", "path"]
def d2_b0 (t : Tab) : EvS := sSeq (sAsg (.nm 3) (eCall t 2 (lCons (eVar 2) (lNil)))) (sIf (tOf (eBin (dIs true) (eVar 3) (eC .non))) (sRet (eTup (lCons (eVar 1) (lStar (eVar 3) (lNil))))) (sSkip))
/-- wrong_shape -/
def d2 (t : Tab) : EvS :=
  sSeq (sIf (tOrr (tNt (tTru (eB bIsi (lCons (eVar 0) (lCons (eC (.cst (.ty "tuple"))) (lNil)))))) (tOf (eBin (dIn true) (eB bLen (lCons (eVar 0) (lNil))) (eTup (lCons (eC (.int 0)) (lCons (eC (.int 2)) (lNil))))))) (sRet (eTup (lNil))) (sSkip)) (sSeq (sFor (itEnum (lCons (eVar 0) (lNil))) (.tp [.nm 1, .nm 2]) (d2_b0 t)) (sRet (eC .non)))
abbrev st3 : Stmt := topAt 10
abbrev nm3 : List Str := ["shape", "found", "rest", "part"]
def d3_q0 (t : Tab) : EvT := tOf (eBin (dEq true) (eVar 2) (eLst (lNil)))
def d3_b0 (t : Tab) : EvS := sSeq (sAsg (.nm 3) (eMl0 mPop (eVar 2))) (sSeq (sAug 1 dAddI (eIf (tOf (eBin (dEq false) (eVar 3) (eTup (lNil)))) (eC (.int 1)) (eC (.int 0)))) (sExpr (eMl mExtend (eVar 2) (lCons (eVar 3) (lNil)))))
/-- size_of -/
def d3 (t : Tab) : EvS :=
  sSeq (sPar [1, 2] (lCons (eC (.int 0)) (lCons (eLst (lCons (eVar 0) (lNil))) (lNil)))) (sSeq (sWhile (d3_q0 t) (d3_b0 t) FUEL) (sRet (eVar 1)))
abbrev st4 : Stmt := topAt 11
abbrev nm4 : List Str := ["n", "side", "found", "lap"]
def d4_b0 (t : Tab) : EvS := sAsg (.nm 2) (eIf (tOf (eBin (dEq false) (eVar 1) (eC (.str "left")))) (eTup (lCons (eVar 2) (lCons (eTup (lNil)) (lNil)))) (eTup (lCons (eTup (lNil)) (lCons (eVar 2) (lNil)))))
/-- comb -/
def d4 (t : Tab) : EvS :=
  sSeq (sAsg (.nm 2) (eTup (lNil))) (sSeq (sFor (itRange1 (lCons (eBin dSub (eVar 0) (eC (.int 1))) (lNil))) (.nm 3) (d4_b0 t)) (sRet (eVar 2)))
abbrev st5 : Stmt := topAt 13
abbrev nm5 : List Str := ["shapes", "k", "shape"]
def d5_b0 (t : Tab) : EvS := sIf (tOf (eBin (dEq true) (eCall t 3 (lCons (eVar 2) (lNil))) (eBin dAdd (eVar 1) (eC (.int 2))))) (sRet (eTup (lCons (eVar 1) (lNil)))) (sSkip)
/-- wrong_sizes -/
def d5 (t : Tab) : EvS :=
  sSeq (sFor (itEnum (lCons (eVar 0) (lNil))) (.tp [.nm 1, .nm 2]) (d5_b0 t)) (sRet (eC .non))
abbrev st6 : Stmt := topAt 14
abbrev nm6 : List Str := ["value", "k", "shape", "path"]
def d6_b0 (t : Tab) : EvS := sSeq (sAsg (.nm 3) (eCall t 2 (lCons (eVar 2) (lNil)))) (sIf (tOf (eBin (dIs true) (eVar 3) (eC .non))) (sRet (eTup (lCons (eVar 1) (lStar (eVar 3) (lNil))))) (sSkip))
/-- wrong_table -/
def d6 (t : Tab) : EvS :=
  sSeq (sIf (tOrr (tNt (tTru (eB bIsi (lCons (eVar 0) (lCons (eC (.cst (.ty "tuple"))) (lNil)))))) (tOf (eBin (dEq false) (eVar 0) (eTup (lNil))))) (sRet (eTup (lNil))) (sSkip)) (sSeq (sFor (itEnum (lCons (eVar 0) (lNil))) (.tp [.nm 1, .nm 2]) (d6_b0 t)) (sRet (eCall t 5 (lCons (eVar 0) (lNil)))))
abbrev st7 : Stmt := topAt 15
abbrev nm7 : List Str := ["table"]
/-- table_size -/
def d7 (t : Tab) : EvS :=
  sRet (eBin dAdd (eB bLen (lCons (eVar 0) (lNil))) (eC (.int 1)))
abbrev st8 : Stmt := topAt 16
abbrev nm8 : List Str := ["table", "m"]
/-- entry -/
def d8 (t : Tab) : EvS :=
  sRet (eIf (tOf (eBin (dEq false) (eVar 1) (eC (.int 1)))) (eTup (lNil)) (eBin dIx (eVar 0) (eBin dSub (eVar 1) (eC (.int 2)))))
abbrev st9 : Stmt := topAt 18
abbrev nm9 : List Str := ["form", "lumps", "left"]
/-- filled -/
def d9 (t : Tab) : EvS :=
  sSeq (sIf (tOf (eBin (dEq false) (eVar 0) (eTup (lNil)))) (sRet (eMl mPop (eVar 1) (lCons (eC (.int 0)) (lNil)))) (sSkip)) (sSeq (sAsg (.nm 2) (eCall t 9 (lCons (eBin dIx (eVar 0) (eC (.int 0))) (lCons (eVar 1) (lNil))))) (sRet (eTup (lCons (eVar 2) (lCons (eCall t 9 (lCons (eBin dIx (eVar 0) (eC (.int 1))) (lCons (eVar 1) (lNil)))) (lNil))))))
abbrev st10 : Stmt := topAt 19
abbrev nm10 : List Str := ["table", "row", "size", "found", "first", "stretch"]
def d10_b0 (t : Tab) : EvS := sSeq (sAsg (.nm 5) (eCut (eVar 1) (oSome (eVar 4)) (oSome (eBin dAdd (eVar 4) (eVar 2))))) (sExpr (eMl mAppend (eVar 3) (lCons (eCall t 9 (lCons (eCall t 8 (lCons (eVar 0) (lCons (eB bLen (lCons (eVar 5) (lNil))) (lNil)))) (lCons (eB bList (lCons (eVar 5) (lNil))) (lNil)))) (lNil))))
/-- pressed -/
def d10 (t : Tab) : EvS :=
  sSeq (sPar [2, 3] (lCons (eCall t 7 (lCons (eVar 0) (lNil))) (lCons (eLst (lNil)) (lNil)))) (sSeq (sFor (itRange3 (lCons (eC (.int 0)) (lCons (eB bLen (lCons (eVar 1) (lNil))) (lCons (eVar 2) (lNil))))) (.nm 4) (d10_b0 t)) (sRet (eVar 3)))
abbrev st11 : Stmt := topAt 20
abbrev nm11 : List Str := ["plan", "n", "row", "number"]
def d11_q0 (t : Tab) : EvT := tAn (tOf (eBin dGt (eB bLen (lCons (eVar 2) (lNil))) (eC (.int 1)))) (tOf (eBin (dIs true) (eMeth t 43 0 "stage" (eVar 0) (lCons (eVar 3) (lNil))) (eC .non)))
def d11_b0 (t : Tab) : EvS := sSeq (sAsg (.nm 2) (eCall t 10 (lCons (eMeth t 43 0 "stage" (eVar 0) (lCons (eVar 3) (lNil))) (lCons (eVar 2) (lNil))))) (sAug 3 dAddI (eC (.int 1)))
/-- shape -/
def d11 (t : Tab) : EvS :=
  sSeq (sPar [2, 3] (lCons (eBin dMulA (eLst (lCons (eTup (lNil)) (lNil))) (eVar 1)) (lCons (eC (.int 0)) (lNil)))) (sSeq (sWhile (d11_q0 t) (d11_b0 t) FUEL) (sRet (eIf (tOf (eBin (dEq false) (eB bLen (lCons (eVar 2) (lNil))) (eC (.int 1)))) (eBin dIx (eVar 2) (eC (.int 0))) (eCall t 9 (lCons (eCall t 4 (lCons (eB bLen (lCons (eVar 2) (lNil))) (lCons (eMeth t 42 0 "end" (eVar 0) (lNil)) (lNil)))) (lCons (eVar 2) (lNil)))))))
abbrev st12 : Stmt := topAt 21
abbrev nm12 : List Str := ["plan", "n", "found", "size"]
def d12_q0 (t : Tab) : EvT := tAn (tOf (eBin dGt (eBin dIx (eVar 2) (eUn dNeg (eC (.int 1)))) (eC (.int 1)))) (tOf (eBin (dIs true) (eMeth t 43 0 "stage" (eVar 0) (lCons (eBin dSub (eB bLen (lCons (eVar 2) (lNil))) (eC (.int 1))) (lNil))) (eC .non)))
def d12_b0 (t : Tab) : EvS := sSeq (sAsg (.nm 3) (eCall t 7 (lCons (eMeth t 43 0 "stage" (eVar 0) (lCons (eBin dSub (eB bLen (lCons (eVar 2) (lNil))) (eC (.int 1))) (lNil))) (lNil)))) (sExpr (eMl mAppend (eVar 2) (lCons (eBin dFdiv (eBin dSub (eBin dAdd (eBin dIx (eVar 2) (eUn dNeg (eC (.int 1)))) (eVar 3)) (eC (.int 1))) (eVar 3)) (lNil))))
/-- counts -/
def d12 (t : Tab) : EvS :=
  sSeq (sAsg (.nm 2) (eLst (lCons (eVar 1) (lNil)))) (sSeq (sWhile (d12_q0 t) (d12_b0 t) FUEL) (sRet (eVar 2)))
abbrev st13 : Stmt := topAt 22
abbrev nm13 : List Str := ["plan", "n", "found", "number"]
def d13_b0 (t : Tab) : EvS := sExpr (eMl mAppend (eVar 2) (lCons (eBin dMulA (eBin dIx (eVar 2) (eUn dNeg (eC (.int 1)))) (eCall t 7 (lCons (eMeth t 43 0 "stage" (eVar 0) (lCons (eVar 3) (lNil))) (lNil)))) (lNil)))
/-- widths -/
def d13 (t : Tab) : EvS :=
  sSeq (sAsg (.nm 2) (eLst (lCons (eC (.int 1)) (lNil)))) (sSeq (sFor (itRange1 (lCons (eBin dSub (eB bLen (lCons (eCall t 12 (lCons (eVar 0) (lCons (eVar 1) (lNil)))) (lNil))) (eC (.int 1))) (lNil))) (.nm 3) (d13_b0 t)) (sRet (eVar 2)))
abbrev st14 : Stmt := topAt 23
abbrev nm14 : List Str := ["plan", "n", "k", "many", "width", "number"]
def d14_e0 (t : Tab) : EvE := eTup (lCons (eBin dMulA (eVar 5) (eVar 4)) (lCons (eB bMin (lCons (eBin dMulA (eBin dAdd (eVar 5) (eC (.int 1))) (eVar 4)) (lCons (eVar 1) (lNil)))) (lNil)))
/-- row_behind -/
def d14 (t : Tab) : EvS :=
  sSeq (sAsg (.tp [.nm 3, .nm 4]) (eTup (lCons (eBin dIx (eCut (eCall t 12 (lCons (eVar 0) (lCons (eVar 1) (lNil)))) oNone (oSome (eBin dAdd (eVar 2) (eC (.int 1))))) (eUn dNeg (eC (.int 1)))) (lCons (eBin dIx (eCut (eCall t 13 (lCons (eVar 0) (lCons (eVar 1) (lNil)))) oNone (oSome (eBin dAdd (eVar 2) (eC (.int 1))))) (eUn dNeg (eC (.int 1)))) (lNil))))) (sRet (eLc (itRange1 (lCons (eVar 3) (lNil))) (.nm 5) [5] (tYesE) (d14_e0 t)))
abbrev st15 : Stmt := topAt 25
abbrev nm15 : List Str := ["form", "waiting", "found", "start", "part"]
def d15_q0 (t : Tab) : EvT := tOf (eBin (dEq true) (eVar 1) (eLst (lNil)))
def d15_b0 (t : Tab) : EvS := sSeq (sAsg (.tp [.nm 3, .nm 4]) (eMl0 mPop (eVar 1))) (sSeq (sExpr (eMl mAppend (eVar 2) (lCons (eTup (lCons (eVar 3) (lCons (eBin dAdd (eVar 3) (eCall t 3 (lCons (eVar 4) (lNil)))) (lNil)))) (lNil)))) (sIf (tOf (eBin (dEq true) (eVar 4) (eTup (lNil)))) (sSeq (sExpr (eMl mAppend (eVar 1) (lCons (eTup (lCons (eBin dAdd (eVar 3) (eCall t 3 (lCons (eBin dIx (eVar 4) (eC (.int 0))) (lNil)))) (lCons (eBin dIx (eVar 4) (eC (.int 1))) (lNil)))) (lNil)))) (sExpr (eMl mAppend (eVar 1) (lCons (eTup (lCons (eVar 3) (lCons (eBin dIx (eVar 4) (eC (.int 0))) (lNil)))) (lNil))))) (sSkip)))
/-- shape_lumps -/
def d15 (t : Tab) : EvS :=
  sSeq (sPar [1, 2] (lCons (eLst (lCons (eTup (lCons (eC (.int 0)) (lCons (eVar 0) (lNil)))) (lNil))) (lCons (eLst (lNil)) (lNil)))) (sSeq (sWhile (d15_q0 t) (d15_b0 t) FUEL) (sRet (eVar 2)))
abbrev st16 : Stmt := topAt 26
abbrev nm16 : List Str := ["many", "end", "number"]
def d16_e0 (t : Tab) : EvE := eTup (lCons (eC (.int 0)) (lCons (eVar 2) (lNil)))
def d16_e1 (t : Tab) : EvE := eTup (lCons (eVar 2) (lCons (eVar 0) (lNil)))
/-- comb_lumps -/
def d16 (t : Tab) : EvS :=
  sSeq (sIf (tOf (eBin (dEq false) (eVar 1) (eC (.str "left")))) (sRet (eLc (itRange2 (lCons (eC (.int 2)) (lCons (eBin dAdd (eVar 0) (eC (.int 1))) (lNil)))) (.nm 2) [2] (tYesE) (d16_e0 t))) (sSkip)) (sRet (eLc (itRange1 (lCons (eBin dSub (eVar 0) (eC (.int 1))) (lNil))) (.nm 2) [2] (tYesE) (d16_e1 t)))
abbrev st17 : Stmt := topAt 27
abbrev nm17 : List Str := ["table", "row", "size", "found", "first", "some", "one", "other"]
def d17_q0 (t : Tab) : EvT := tOf (eBin dGt (eBin dSub (eVar 7) (eVar 6)) (eC (.int 1)))
def d17_e0 (t : Tab) : EvE := eTup (lCons (eBin dAdd (eVar 4) (eVar 6)) (lCons (eBin dAdd (eVar 4) (eVar 7)) (lNil)))
def d17_b0 (t : Tab) : EvS := sSeq (sAsg (.nm 5) (eCall t 15 (lCons (eCall t 8 (lCons (eVar 0) (lCons (eB bMin (lCons (eVar 2) (lCons (eBin dSub (eB bLen (lCons (eVar 1) (lNil))) (eVar 4)) (lNil)))) (lNil)))) (lNil)))) (sExpr (eMl mExtend (eVar 3) (lCons (eLc (itE (eVar 5)) (.tp [.nm 6, .nm 7]) [6, 7] (d17_q0 t) (d17_e0 t)) (lNil))))
/-- stretch_lumps -/
def d17 (t : Tab) : EvS :=
  sSeq (sPar [2, 3] (lCons (eCall t 7 (lCons (eVar 0) (lNil))) (lCons (eLst (lNil)) (lNil)))) (sSeq (sFor (itRange3 (lCons (eC (.int 0)) (lCons (eB bLen (lCons (eVar 1) (lNil))) (lCons (eVar 2) (lNil))))) (.nm 4) (d17_b0 t)) (sRet (eVar 3)))
abbrev st18 : Stmt := topAt 28
abbrev nm18 : List Str := ["plan", "n", "row", "number", "found", "place", "one", "other"]
def d18_e0 (t : Tab) : EvE := eTup (lCons (eVar 5) (lCons (eBin dAdd (eVar 5) (eC (.int 1))) (lNil)))
def d18_e1 (t : Tab) : EvE := eTup (lCons (eVar 5) (lCons (eBin dAdd (eVar 5) (eC (.int 1))) (lNil)))
def d18_e2 (t : Tab) : EvE := eTup (lCons (eBin dIx (eBin dIx (eVar 2) (eVar 6)) (eC (.int 0))) (lCons (eBin dIx (eBin dIx (eVar 2) (eBin dSub (eVar 7) (eC (.int 1)))) (eC (.int 1))) (lNil)))
def d18_q0 (t : Tab) : EvT := tAn (tOf (eBin dGt (eB bLen (lCons (eVar 2) (lNil))) (eC (.int 1)))) (tOf (eBin (dIs true) (eMeth t 43 0 "stage" (eVar 0) (lCons (eVar 3) (lNil))) (eC .non)))
def d18_b0 (t : Tab) : EvS := sSeq (sExpr (eMl mExtend (eVar 4) (lCons (eLc (itE (eCall t 17 (lCons (eMeth t 43 0 "stage" (eVar 0) (lCons (eVar 3) (lNil))) (lCons (eVar 2) (lNil))))) (.tp [.nm 6, .nm 7]) [6, 7] (tYesE) (d18_e2 t)) (lNil)))) (sSeq (sAug 3 dAddI (eC (.int 1))) (sAsg (.nm 2) (eCall t 14 (lCons (eVar 0) (lCons (eVar 1) (lCons (eVar 3) (lNil)))))))
def d18_e3 (t : Tab) : EvE := eTup (lCons (eBin dIx (eBin dIx (eVar 2) (eVar 6)) (eC (.int 0))) (lCons (eBin dIx (eBin dIx (eVar 2) (eBin dSub (eVar 7) (eC (.int 1)))) (eC (.int 1))) (lNil)))
/-- all_lumps -/
def d18 (t : Tab) : EvS :=
  sSeq (sAsg (.tp [.nm 2, .nm 3, .nm 4]) (eTup (lCons (eCall t 14 (lCons (eVar 0) (lCons (eVar 1) (lCons (eC (.int 0)) (lNil))))) (lCons (eC (.int 0)) (lCons (eLc (itRange1 (lCons (eVar 1) (lNil))) (.nm 5) [5] (tYesE) (d18_e0 t)) (lNil)))))) (sSeq (sWhile (d18_q0 t) (d18_b0 t) FUEL) (sSeq (sIf (tOf (eBin dGt (eB bLen (lCons (eVar 2) (lNil))) (eC (.int 1)))) (sExpr (eMl mExtend (eVar 4) (lCons (eLc (itE (eCall t 16 (lCons (eB bLen (lCons (eVar 2) (lNil))) (lCons (eMeth t 42 0 "end" (eVar 0) (lNil)) (lNil))))) (.tp [.nm 6, .nm 7]) [6, 7] (tYesE) (d18_e3 t)) (lNil)))) (sSkip)) (sRet (eB bSortK (lCons (eVar 4) lNil)))))
abbrev st19 : Stmt := topAt 31
abbrev nm19 : List Str := ["one", "other", "end"]
/-- comb_parts -/
def d19 (t : Tab) : EvS :=
  sRet (eIf (tOf (eBin (dEq false) (eVar 2) (eC (.str "left")))) (eTup (lCons (eTup (lCons (eVar 0) (lCons (eBin dSub (eVar 1) (eC (.int 1))) (lNil)))) (lCons (eTup (lCons (eBin dSub (eVar 1) (eC (.int 1))) (lCons (eVar 1) (lNil)))) (lNil)))) (eTup (lCons (eTup (lCons (eVar 0) (lCons (eBin dAdd (eVar 0) (eC (.int 1))) (lNil)))) (lCons (eTup (lCons (eBin dAdd (eVar 0) (eC (.int 1))) (lCons (eVar 1) (lNil)))) (lNil)))))
abbrev st20 : Stmt := clsAt 32 0
abbrev nm20 : List Str := ["self", "plan", "n"]
/-- Rows.__init__ -/
def d20 (t : Tab) : EvS :=
  sSeq (sFldS 1 "plan" (eVar 0) (eVar 1)) (sSeq (sFldS 1 "many" (eVar 0) (eCall t 12 (lCons (eVar 1) (lCons (eVar 2) (lNil))))) (sFldS 1 "width" (eVar 0) (eCall t 13 (lCons (eVar 1) (lCons (eVar 2) (lNil))))))
abbrev st21 : Stmt := clsAt 32 1
abbrev nm21 : List Str := ["self", "node", "level", "one", "other", "form"]
/-- Rows.places -/
def d21 (t : Tab) : EvS :=
  sSeq (sAsg (.tp [.nm 2, .nm 3, .nm 4, .nm 5]) (eVar 1)) (sRet (eTup (lCons (eBin dMulA (eVar 3) (eBin dIx (eFld 1 "width" (eVar 0)) (eVar 2))) (lCons (eB bMin (lCons (eBin dMulA (eVar 4) (eBin dIx (eFld 1 "width" (eVar 0)) (eVar 2))) (lCons (eBin dIx (eFld 1 "many" (eVar 0)) (eC (.int 0))) (lNil)))) (lNil)))))
abbrev st22 : Stmt := clsAt 32 2
abbrev nm22 : List Str := ["self", "level", "number", "table", "first", "many"]
/-- Rows.stretch -/
def d22 (t : Tab) : EvS :=
  sSeq (sAsg (.nm 3) (eMeth t 43 0 "stage" (eFld 1 "plan" (eVar 0)) (lCons (eVar 1) (lNil)))) (sSeq (sAsg (.nm 4) (eBin dMulA (eVar 2) (eCall t 7 (lCons (eVar 3) (lNil))))) (sSeq (sAsg (.nm 5) (eB bMin (lCons (eCall t 7 (lCons (eVar 3) (lNil))) (lCons (eBin dSub (eBin dIx (eFld 1 "many" (eVar 0)) (eVar 1)) (eVar 4)) (lNil))))) (sRet (eTup (lCons (eVar 4) (lCons (eVar 5) (lCons (eCall t 8 (lCons (eVar 3) (lCons (eVar 5) (lNil)))) (lNil))))))))
abbrev st23 : Stmt := clsAt 32 3
abbrev nm23 : List Str := ["self", "node", "level", "one", "other", "form", "first", "many"]
def d23_q0 (t : Tab) : EvT := tAn (tOf (eBin (dEq false) (eBin dSub (eVar 4) (eVar 3)) (eC (.int 1)))) (tOf (eBin dGt (eVar 2) (eC (.int 0))))
def d23_b0 (t : Tab) : EvS := sSeq (sAug 2 dSub (eC (.int 1))) (sSeq (sAsg (.tp [.nm 6, .nm 7, .nm 5]) (eMeth t 22 1 "stretch" (eVar 0) (lCons (eVar 2) (lCons (eVar 3) (lNil))))) (sPar [3, 4] (lCons (eVar 6) (lCons (eBin dAdd (eVar 6) (eVar 7)) (lNil)))))
/-- Rows.opened -/
def d23 (t : Tab) : EvS :=
  sSeq (sAsg (.tp [.nm 2, .nm 3, .nm 4, .nm 5]) (eVar 1)) (sSeq (sWhile (d23_q0 t) (d23_b0 t) FUEL) (sRet (eTup (lCons (eVar 2) (lCons (eVar 3) (lCons (eVar 4) (lCons (eVar 5) (lNil))))))))
abbrev st24 : Stmt := clsAt 32 4
abbrev nm24 : List Str := ["self"]
/-- Rows.root -/
def d24 (t : Tab) : EvS :=
  sRet (eMeth t 23 1 "opened" (eVar 0) (lCons (eTup (lCons (eBin dSub (eB bLen (lCons (eFld 1 "many" (eVar 0)) (lNil))) (eC (.int 1))) (lCons (eC (.int 0)) (lCons (eBin dIx (eFld 1 "many" (eVar 0)) (eUn dNeg (eC (.int 1)))) (lCons (eC .non) (lNil)))))) (lNil)))
abbrev st25 : Stmt := clsAt 32 5
abbrev nm25 : List Str := ["self", "node", "level", "one", "other", "form", "pairs", "middle", "first", "last"]
def d25_e0 (t : Tab) : EvE := eMeth t 23 1 "opened" (eVar 0) (lCons (eTup (lCons (eVar 2) (lCons (eVar 8) (lCons (eVar 9) (lCons (eC .non) (lNil)))))) (lNil))
/-- Rows.parts -/
def d25 (t : Tab) : EvS :=
  sSeq (sAsg (.tp [.nm 2, .nm 3, .nm 4, .nm 5]) (eVar 1)) (sSeq (sIf (tOf (eBin (dEq false) (eBin dSub (eVar 4) (eVar 3)) (eC (.int 1)))) (sRet (eLst (lNil))) (sSkip)) (sSeq (sIf (tOf (eBin (dIs false) (eVar 5) (eC .non))) (sSeq (sAsg (.nm 6) (eCall t 19 (lCons (eVar 3) (lCons (eVar 4) (lCons (eMeth t 42 0 "end" (eFld 1 "plan" (eVar 0)) (lNil)) (lNil)))))) (sRet (eLc (itE (eVar 6)) (.tp [.nm 8, .nm 9]) [8, 9] (tYesE) (d25_e0 t)))) (sSkip)) (sSeq (sAsg (.nm 7) (eBin dAdd (eVar 3) (eCall t 3 (lCons (eBin dIx (eVar 5) (eC (.int 0))) (lNil))))) (sRet (eLst (lCons (eMeth t 23 1 "opened" (eVar 0) (lCons (eTup (lCons (eVar 2) (lCons (eVar 3) (lCons (eVar 7) (lCons (eBin dIx (eVar 5) (eC (.int 0))) (lNil)))))) (lNil))) (lCons (eMeth t 23 1 "opened" (eVar 0) (lCons (eTup (lCons (eVar 2) (lCons (eVar 7) (lCons (eVar 4) (lCons (eBin dIx (eVar 5) (eC (.int 1))) (lNil)))))) (lNil))) (lNil))))))))
abbrev st26 : Stmt := clsAt 32 6
abbrev nm26 : List Str := ["self", "node", "low", "high", "level", "one", "other", "form", "middle"]
def d26_q0 (t : Tab) : EvT := tTru (eC (.bl true))
def d26_b0 (t : Tab) : EvS := sSeq (sAsg (.nm 8) (eBin dAdd (eVar 5) (eCall t 3 (lCons (eBin dIx (eVar 7) (eC (.int 0))) (lNil))))) (sSeq (sIf (tOf (eChn dLt dLe (eVar 2) (eVar 8) (eVar 3))) (sRet (eTup (lCons (eVar 4) (lCons (eVar 5) (lCons (eVar 6) (lCons (eVar 7) (lNil))))))) (sSkip)) (sAsg (.tp [.nm 5, .nm 6, .nm 7]) (eIf (tOf (eBin dLt (eVar 3) (eVar 8))) (eTup (lCons (eVar 5) (lCons (eVar 8) (lCons (eBin dIx (eVar 7) (eC (.int 0))) (lNil))))) (eTup (lCons (eVar 8) (lCons (eVar 6) (lCons (eBin dIx (eVar 7) (eC (.int 1))) (lNil))))))))
/-- Rows.narrowed -/
def d26 (t : Tab) : EvS :=
  sSeq (sAsg (.tp [.nm 4, .nm 5, .nm 6, .nm 7]) (eVar 1)) (sWhile (d26_q0 t) (d26_b0 t) FUEL)
abbrev st27 : Stmt := clsAt 32 7
abbrev nm27 : List Str := ["self", "low", "high", "level", "size", "first", "many", "form"]
def d27_b0 (t : Tab) : EvS := sSeq (sAsg (.nm 4) (eCall t 7 (lCons (eMeth t 43 0 "stage" (eFld 1 "plan" (eVar 0)) (lCons (eVar 3) (lNil))) (lNil)))) (sSeq (sIf (tOf (eBin (dEq false) (eBin dFdiv (eVar 1) (eVar 4)) (eBin dFdiv (eVar 2) (eVar 4)))) (sSeq (sAsg (.tp [.nm 5, .nm 6, .nm 7]) (eMeth t 22 1 "stretch" (eVar 0) (lCons (eVar 3) (lCons (eBin dFdiv (eVar 1) (eVar 4)) (lNil))))) (sRet (eMeth t 26 1 "narrowed" (eVar 0) (lCons (eTup (lCons (eVar 3) (lCons (eVar 5) (lCons (eBin dAdd (eVar 5) (eVar 6)) (lCons (eVar 7) (lNil)))))) (lCons (eVar 1) (lCons (eVar 2) (lNil))))))) (sSkip)) (sPar [1, 2] (lCons (eBin dFdiv (eVar 1) (eVar 4)) (lCons (eBin dFdiv (eVar 2) (eVar 4)) (lNil)))))
/-- Rows.least -/
def d27 (t : Tab) : EvS :=
  sSeq (sFor (itRange1 (lCons (eBin dSub (eB bLen (lCons (eFld 1 "many" (eVar 0)) (lNil))) (eC (.int 1))) (lNil))) (.nm 3) (d27_b0 t)) (sSeq (sAsg (.nm 3) (eBin dSub (eB bLen (lCons (eFld 1 "many" (eVar 0)) (lNil))) (eC (.int 1)))) (sRet (eIf (tOf (eBin (dEq false) (eMeth t 42 0 "end" (eFld 1 "plan" (eVar 0)) (lNil)) (eC (.str "left")))) (eTup (lCons (eVar 3) (lCons (eC (.int 0)) (lCons (eBin dAdd (eVar 2) (eC (.int 1))) (lCons (eC .non) (lNil)))))) (eTup (lCons (eVar 3) (lCons (eVar 1) (lCons (eBin dIx (eFld 1 "many" (eVar 0)) (eUn dNeg (eC (.int 1)))) (lCons (eC .non) (lNil)))))))))
/-- class Rows -/
def d28 (t : Tab) : EvS :=
  sMk t 1 20 2 (lCons (eVar 2) (lCons (eVar 0) (lCons (eVar 1) (lNil))))
abbrev st29 : Stmt := topAt 33
abbrev nm29 : List Str := ["plan", "n", "i", "j", "level", "table", "size", "first"]
def d29_q0 (t : Tab) : EvT := tAn (tOf (eBin dGt (eBin dSub (eVar 3) (eVar 2)) (eC (.int 1)))) (tOf (eBin (dIs true) (eMeth t 43 0 "stage" (eVar 0) (lCons (eVar 4) (lNil))) (eC .non)))
def d29_b0 (t : Tab) : EvS := sSeq (sAsg (.nm 5) (eMeth t 43 0 "stage" (eVar 0) (lCons (eVar 4) (lNil)))) (sSeq (sAsg (.nm 6) (eCall t 7 (lCons (eVar 5) (lNil)))) (sSeq (sAsg (.nm 7) (eBin dMulA (eBin dFdiv (eVar 2) (eVar 6)) (eVar 6))) (sSeq (sIf (tOf (eBin (dEq false) (eVar 7) (eBin dMulA (eBin dFdiv (eBin dSub (eVar 3) (eC (.int 1))) (eVar 6)) (eVar 6)))) (sRet (eBin (dIn false) (eTup (lCons (eBin dSub (eVar 2) (eVar 7)) (lCons (eBin dSub (eVar 3) (eVar 7)) (lNil)))) (eCall t 15 (lCons (eCall t 8 (lCons (eVar 5) (lCons (eB bMin (lCons (eVar 6) (lCons (eBin dSub (eVar 1) (eVar 7)) (lNil)))) (lNil)))) (lNil))))) (sSkip)) (sSeq (sIf (tOrr (tOf (eBin (dEq true) (eVar 2) (eVar 7))) (tAn (tOf (eBin (dEq true) (eBin dMod (eVar 3) (eVar 6)) (eC (.int 0)))) (tOf (eBin (dEq true) (eVar 3) (eVar 1))))) (sRet (eC (.bl false))) (sSkip)) (sSeq (sPar [2, 3, 1] (lCons (eBin dFdiv (eVar 2) (eVar 6)) (lCons (eBin dFdiv (eBin dSub (eBin dAdd (eVar 3) (eVar 6)) (eC (.int 1))) (eVar 6)) (lCons (eBin dFdiv (eBin dSub (eBin dAdd (eVar 1) (eVar 6)) (eC (.int 1))) (eVar 6)) (lNil))))) (sAug 4 dAddI (eC (.int 1))))))))
/-- are_lump_numbers -/
def d29 (t : Tab) : EvS :=
  sSeq (sAsg (.nm 4) (eC (.int 0))) (sSeq (sWhile (d29_q0 t) (d29_b0 t) FUEL) (sRet (eOrr (eBin (dEq false) (eBin dSub (eVar 3) (eVar 2)) (eC (.int 1))) (eIf (tOf (eBin (dEq false) (eMeth t 42 0 "end" (eVar 0) (lNil)) (eC (.str "left")))) (eBin (dEq false) (eVar 2) (eC (.int 0))) (eBin (dEq false) (eVar 3) (eVar 1))))))
abbrev st30 : Stmt := topAt 34
abbrev nm30 : List Str := ["plan", "n", "i", "j"]
/-- is_lump -/
def d30 (t : Tab) : EvS :=
  sRet (eAn (eCall t 1 (lCons (eVar 2) (lNil))) (eAn (eCall t 1 (lCons (eVar 3) (lNil))) (eAn (eChn dLt dLe (eVar 2) (eVar 3) (eVar 1)) (eCall t 29 (lCons (eVar 0) (lCons (eVar 1) (lCons (eVar 2) (lCons (eVar 3) (lNil)))))))))
abbrev st31 : Stmt := topAt 35
abbrev nm31 : List Str := ["plan", "n", "path", "rows", "node", "step", "parts"]
def d31_b0 (t : Tab) : EvS := sSeq (sAsg (.nm 6) (eMeth t 25 1 "parts" (eVar 3) (lCons (eVar 4) (lNil)))) (sSeq (sIf (tOrr (tNt (tTru (eCall t 1 (lCons (eVar 5) (lNil))))) (tOrr (tOf (eBin dGt (eVar 5) (eC (.int 1)))) (tOf (eBin (dEq false) (eVar 6) (eLst (lNil)))))) (sRet (eC .non)) (sSkip)) (sAsg (.nm 4) (eBin dIx (eVar 6) (eVar 5))))
/-- lump_at -/
def d31 (t : Tab) : EvS :=
  sSeq (sIf (tNt (tTru (eB bIsi (lCons (eVar 2) (lCons (eC (.cst (.ty "tuple"))) (lNil)))))) (sRet (eC .non)) (sSkip)) (sSeq (sAsg (.nm 3) (eCall t 28 (lCons (eVar 0) (lCons (eVar 1) (lNil))))) (sSeq (sAsg (.nm 4) (eMeth t 24 1 "root" (eVar 3) (lNil))) (sSeq (sFor (itE (eVar 2)) (.nm 5) (d31_b0 t)) (sRet (eMeth t 21 1 "places" (eVar 3) (lCons (eVar 4) (lNil)))))))
abbrev st32 : Stmt := topAt 36
abbrev nm32 : List Str := ["plan", "n", "i", "j", "rows", "path", "node", "left", "right"]
def d32_q0 (t : Tab) : EvT := tOf (eBin (dEq true) (eMeth t 21 1 "places" (eVar 4) (lCons (eVar 6) (lNil))) (eTup (lCons (eVar 2) (lCons (eVar 3) (lNil)))))
def d32_b0 (t : Tab) : EvS := sSeq (sIf (tOf (eBin (dEq false) (eB bLen (lCons (eVar 5) (lNil))) (eC (.int 400)))) (sBad) (sSkip)) (sSeq (sAsg (.tp [.nm 7, .nm 8]) (eMeth t 25 1 "parts" (eVar 4) (lCons (eVar 6) (lNil)))) (sSeq (sExpr (eMl mAppend (eVar 5) (lCons (eIf (tOf (eBin dLe (eVar 3) (eBin dIx (eMeth t 21 1 "places" (eVar 4) (lCons (eVar 7) (lNil))) (eC (.int 1))))) (eC (.int 0)) (eC (.int 1))) (lNil)))) (sAsg (.nm 6) (eBin dIx (eTup (lCons (eVar 7) (lCons (eVar 8) (lNil)))) (eBin dIx (eVar 5) (eUn dNeg (eC (.int 1))))))))
/-- path_of -/
def d32 (t : Tab) : EvS :=
  sSeq (sIf (tNt (tTru (eCall t 30 (lCons (eVar 0) (lCons (eVar 1) (lCons (eVar 2) (lCons (eVar 3) (lNil)))))))) (sRet (eC .non)) (sSkip)) (sSeq (sPar [4, 5] (lCons (eCall t 28 (lCons (eVar 0) (lCons (eVar 1) (lNil)))) (lCons (eLst (lNil)) (lNil)))) (sSeq (sAsg (.nm 6) (eMeth t 24 1 "root" (eVar 4) (lNil))) (sSeq (sWhile (d32_q0 t) (d32_b0 t) FUEL) (sRet (eB bTuple (lCons (eVar 5) (lNil)))))))
abbrev st33 : Stmt := topAt 37
abbrev nm33 : List Str := ["n", "values", "value"]
def d33_b0 (t : Tab) : EvS := sIf (tOrr (tNt (tTru (eCall t 1 (lCons (eVar 2) (lNil))))) (tOf (eBin dGe (eVar 2) (eVar 0)))) (sBad) (sSkip)
/-- need_places -/
def d33 (t : Tab) : EvS :=
  sFor (itE (eVar 1)) (.nm 2) (d33_b0 t)
abbrev st34 : Stmt := topAt 38
abbrev nm34 : List Str := ["plan", "n", "i", "j", "rows"]
/-- least_lump -/
def d34 (t : Tab) : EvS :=
  sSeq (sExpr (eCall t 33 (lCons (eVar 1) (lCons (eTup (lCons (eVar 2) (lCons (eVar 3) (lNil)))) (lNil))))) (sSeq (sAsg (.nm 4) (eCall t 28 (lCons (eVar 0) (lCons (eVar 1) (lNil))))) (sRet (eIf (tOf (eBin (dEq false) (eVar 2) (eVar 3))) (eTup (lCons (eVar 2) (lCons (eBin dAdd (eVar 2) (eC (.int 1))) (lNil)))) (eMeth t 21 1 "places" (eVar 4) (lCons (eMeth t 27 1 "least" (eVar 4) (lCons (eB bMin (lCons (eVar 2) (lCons (eVar 3) (lNil)))) (lCons (eB bMax (lCons (eVar 2) (lCons (eVar 3) (lNil)))) (lNil)))) (lNil))))))
abbrev st35 : Stmt := topAt 39
abbrev nm35 : List Str := ["plan", "n", "i", "j", "rows", "left", "right", "part"]
def d35_e0 (t : Tab) : EvE := eMeth t 21 1 "places" (eVar 4) (lCons (eVar 7) (lNil))
/-- crossing -/
def d35 (t : Tab) : EvS :=
  sSeq (sIf (tTru (eCall t 30 (lCons (eVar 0) (lCons (eVar 1) (lCons (eVar 2) (lCons (eVar 3) (lNil))))))) (sRet (eC .non)) (sSkip)) (sSeq (sAsg (.nm 4) (eCall t 28 (lCons (eVar 0) (lCons (eVar 1) (lNil))))) (sSeq (sAsg (.tp [.nm 5, .nm 6]) (eLc (itE (eMeth t 25 1 "parts" (eVar 4) (lCons (eMeth t 27 1 "least" (eVar 4) (lCons (eVar 2) (lCons (eBin dSub (eVar 3) (eC (.int 1))) (lNil)))) (lNil)))) (.nm 7) [7] (tYesE) (d35_e0 t))) (sRet (eIf (tOf (eBin dLt (eBin dIx (eVar 5) (eC (.int 0))) (eVar 2))) (eVar 5) (eVar 6)))))
abbrev st36 : Stmt := topAt 40
abbrev nm36 : List Str := ["plan", "n", "i", "rows", "found", "level", "size", "first", "many", "form", "pair"]
def d36_q0 (t : Tab) : EvT := tOf (eChn dLe dLt (eBin dIx (eVar 10) (eC (.int 0))) (eBin dSub (eVar 2) (eVar 7)) (eBin dIx (eVar 10) (eC (.int 1))))
def d36_e0 (t : Tab) : EvE := eVar 10
def d36_b0 (t : Tab) : EvS := sSeq (sAsg (.nm 6) (eCall t 7 (lCons (eMeth t 43 0 "stage" (eVar 0) (lCons (eVar 5) (lNil))) (lNil)))) (sSeq (sAsg (.tp [.nm 7, .nm 8, .nm 9]) (eMeth t 22 1 "stretch" (eVar 3) (lCons (eVar 5) (lCons (eBin dFdiv (eVar 2) (eVar 6)) (lNil))))) (sSeq (sAug 4 dAddI (eBin dSub (eB bLen (lCons (eLc (itE (eCall t 15 (lCons (eVar 9) (lNil)))) (.nm 10) [10] (d36_q0 t) (d36_e0 t)) (lNil))) (eC (.int 1)))) (sAsg (.nm 2) (eBin dFdiv (eVar 2) (eVar 6)))))
/-- depth -/
def d36 (t : Tab) : EvS :=
  sSeq (sExpr (eCall t 33 (lCons (eVar 1) (lCons (eTup (lCons (eVar 2) (lNil))) (lNil))))) (sSeq (sPar [3, 4] (lCons (eCall t 28 (lCons (eVar 0) (lCons (eVar 1) (lNil)))) (lCons (eC (.int 0)) (lNil)))) (sSeq (sFor (itRange1 (lCons (eBin dSub (eB bLen (lCons (eFld 1 "many" (eVar 3)) (lNil))) (eC (.int 1))) (lNil))) (.nm 5) (d36_b0 t)) (sSeq (sAsg (.nm 8) (eBin dIx (eFld 1 "many" (eVar 3)) (eUn dNeg (eC (.int 1))))) (sSeq (sIf (tOf (eBin (dEq false) (eVar 8) (eC (.int 1)))) (sRet (eVar 4)) (sSkip)) (sSeq (sIf (tOf (eBin (dEq false) (eMeth t 42 0 "end" (eVar 0) (lNil)) (eC (.str "left")))) (sRet (eBin dAdd (eVar 4) (eB bMin (lCons (eBin dSub (eVar 8) (eC (.int 1))) (lCons (eBin dSub (eVar 8) (eVar 2)) (lNil)))))) (sSkip)) (sRet (eBin dAdd (eVar 4) (eB bMin (lCons (eBin dSub (eVar 8) (eC (.int 1))) (lCons (eBin dAdd (eVar 2) (eC (.int 1))) (lNil)))))))))))
abbrev st37 : Stmt := topAt 43
abbrev nm37 : List Str := ["tables", "k", "table", "path"]
def d37_b0 (t : Tab) : EvS := sSeq (sAsg (.nm 3) (eCall t 6 (lCons (eVar 2) (lNil)))) (sIf (tOf (eBin (dIs true) (eVar 3) (eC .non))) (sRet (eTup (lCons (eVar 1) (lStar (eVar 3) (lNil))))) (sSkip))
/-- wrong_member -/
def d37 (t : Tab) : EvS :=
  sSeq (sFor (itEnum (lCons (eVar 0) (lNil))) (.tp [.nm 1, .nm 2]) (d37_b0 t)) (sRet (eC .non))
abbrev st38 : Stmt := topAt 44
abbrev nm38 : List Str := ["tables", "end", "path"]
/-- wrong_plan -/
def d38 (t : Tab) : EvS :=
  sSeq (sIf (tNt (tTru (eB bIsi (lCons (eVar 0) (lCons (eTup (lCons (eC (.cst (.ty "list"))) (lCons (eC (.cst (.ty "tuple"))) (lNil)))) (lNil)))))) (sRet (eTup (lCons (eC (.int 0)) (lNil)))) (sSkip)) (sSeq (sAsg (.nm 2) (eCall t 37 (lCons (eVar 0) (lNil)))) (sSeq (sIf (tOf (eBin (dIs true) (eVar 2) (eC .non))) (sRet (eTup (lCons (eC (.int 0)) (lStar (eVar 2) (lNil))))) (sSkip)) (sSeq (sIf (tAn (tTru (eB bIsi (lCons (eVar 1) (lCons (eC (.cst (.ty "str"))) (lNil))))) (tOf (eBin (dIn false) (eVar 1) (eC (ktS ["left", "right"]))))) (sRet (eC .non)) (sSkip)) (sSeq (sIf (tOrr (tNt (tTru (eB bIsi (lCons (eVar 1) (lCons (eC (.cst (.ty "tuple"))) (lNil)))))) (tOf (eBin (dEq false) (eVar 1) (eTup (lNil))))) (sRet (eTup (lCons (eC (.int 1)) (lNil)))) (sSkip)) (sSeq (sAsg (.nm 2) (eCall t 37 (lCons (eVar 1) (lNil)))) (sRet (eIf (tOf (eBin (dIs false) (eVar 2) (eC .non))) (eC .non) (eTup (lCons (eC (.int 1)) (lStar (eVar 2) (lNil)))))))))))
abbrev st39 : Stmt := clsAt 45 0
abbrev nm39 : List Str := ["self", "tables", "end", "path"]
/-- Plan.__init__ -/
def d39 (t : Tab) : EvS :=
  sSeq (sAsg (.nm 3) (eCall t 38 (lCons (eVar 1) (lCons (eVar 2) (lNil))))) (sSeq (sIf (tOf (eBin (dIs true) (eVar 3) (eC .non))) (sBad) (sSkip)) (sSeq (sFldS 0 "own_tables" (eVar 0) (eB bTuple (lCons (eVar 1) (lNil)))) (sFldS 0 "own_end" (eVar 0) (eVar 2))))
abbrev st40 : Stmt := clsAt 45 1
abbrev nm40 : List Str := ["self", "other"]
/-- Plan.__eq__ -/
def d40 (t : Tab) : EvS :=
  sRet (eAn (eIsC 0 (eVar 1)) (eBin (dEq false) (eTup (lCons (eFld 0 "own_tables" (eVar 0)) (lCons (eFld 0 "own_end" (eVar 0)) (lNil)))) (eTup (lCons (eFld 0 "own_tables" (eVar 1)) (lCons (eFld 0 "own_end" (eVar 1)) (lNil))))))
abbrev st41 : Stmt := clsAt 45 2
abbrev nm41 : List Str := ["self"]
/-- Plan.tables -/
def d41 (t : Tab) : EvS :=
  sRet (eFld 0 "own_tables" (eVar 0))
abbrev st42 : Stmt := clsAt 45 3
abbrev nm42 : List Str := ["self"]
/-- Plan.end -/
def d42 (t : Tab) : EvS :=
  sRet (eFld 0 "own_end" (eVar 0))
abbrev st43 : Stmt := clsAt 45 4
abbrev nm43 : List Str := ["self", "k"]
/-- Plan.stage -/
def d43 (t : Tab) : EvS :=
  sSeq (sIf (tOf (eBin dLt (eVar 1) (eB bLen (lCons (eFld 0 "own_tables" (eVar 0)) (lNil))))) (sRet (eBin dIx (eFld 0 "own_tables" (eVar 0)) (eVar 1))) (sSkip)) (sSeq (sIf (tOf (eBin (dIn false) (eFld 0 "own_end" (eVar 0)) (eC (ktS ["left", "right"])))) (sRet (eC .non)) (sSkip)) (sRet (eBin dIx (eFld 0 "own_end" (eVar 0)) (eBin dMod (eBin dSub (eVar 1) (eB bLen (lCons (eFld 0 "own_tables" (eVar 0)) (lNil)))) (eB bLen (lCons (eFld 0 "own_end" (eVar 0)) (lNil)))))))
/-- class Plan -/
def d44 (t : Tab) : EvS :=
  sMk t 0 39 2 (lCons (eVar 2) (lCons (eVar 0) (lCons (eVar 1) (lNil))))
abbrev st45 : Stmt := topAt 47
abbrev nm45 : List Str := ["_law_p", "_law_plan", "_law_great", "_law_due", "_law_k"]
def d45_e0 (t : Tab) : EvE := eCall t 30 (lCons (eVar 1) (lCons (eVar 2) (lCons (eBin dPow (eC (.int 10)) (eC (.int 19))) (lCons (eBin dAdd (eBin dPow (eC (.int 10)) (eC (.int 19))) (eVar 4)) (lNil)))))
/-- _law_example_right -/
def d45 (t : Tab) : EvS :=
  sSeq (sAsg (.nm 0) (eTup (lCons (eTup (lNil)) (lCons (eTup (lNil)) (lNil))))) (sSeq (sAsg (.tp [.nm 1, .nm 2]) (eTup (lCons (eCall t 44 (lCons (eLst (lCons (eTup (lCons (eVar 0) (lNil))) (lNil))) (lCons (eC (.str "left")) (lNil)))) (lCons (eBin dPow (eC (.int 10)) (eC (.int 20))) (lNil))))) (sSeq (sAsg (.nm 3) (eLst (lCons (eTup (lCons (eC (.int 0)) (lCons (eC (.int 7)) (lNil)))) (lCons (eTup (lCons (eC (.int 0)) (lCons (eC (.int 6)) (lNil)))) (lCons (eTup (lCons (eC (.int 0)) (lCons (eC (.int 4)) (lNil)))) (lCons (eTup (lCons (eC (.int 0)) (lCons (eC (.int 2)) (lNil)))) (lCons (eTup (lCons (eC (.int 0)) (lCons (eC (.int 1)) (lNil)))) (lCons (eTup (lCons (eC (.int 1)) (lCons (eC (.int 2)) (lNil)))) (lCons (eTup (lCons (eC (.int 2)) (lCons (eC (.int 4)) (lNil)))) (lCons (eTup (lCons (eC (.int 2)) (lCons (eC (.int 3)) (lNil)))) (lCons (eTup (lCons (eC (.int 3)) (lCons (eC (.int 4)) (lNil)))) (lCons (eTup (lCons (eC (.int 4)) (lCons (eC (.int 6)) (lNil)))) (lCons (eTup (lCons (eC (.int 4)) (lCons (eC (.int 5)) (lNil)))) (lCons (eTup (lCons (eC (.int 5)) (lCons (eC (.int 6)) (lNil)))) (lCons (eTup (lCons (eC (.int 6)) (lCons (eC (.int 7)) (lNil)))) (lNil)))))))))))))))) (sSeq (sIf (tOrr (tOf (eBin (dEq true) (eCall t 11 (lCons (eVar 1) (lCons (eC (.int 7)) (lNil)))) (eTup (lCons (eTup (lCons (eTup (lCons (eVar 0) (lCons (eVar 0) (lNil)))) (lCons (eVar 0) (lNil)))) (lCons (eTup (lNil)) (lNil)))))) (tOrr (tOf (eBin (dEq true) (eCall t 18 (lCons (eVar 1) (lCons (eC (.int 7)) (lNil)))) (eVar 3))) (tOf (eBin (dEq true) (eCall t 14 (lCons (eVar 1) (lCons (eC (.int 7)) (lCons (eC (.int 5)) (lNil))))) (eLst (lCons (eTup (lCons (eC (.int 0)) (lCons (eC (.int 2)) (lNil)))) (lCons (eTup (lCons (eC (.int 2)) (lCons (eC (.int 4)) (lNil)))) (lCons (eTup (lCons (eC (.int 4)) (lCons (eC (.int 6)) (lNil)))) (lCons (eTup (lCons (eC (.int 6)) (lCons (eC (.int 7)) (lNil)))) (lNil)))))))))) (sRet (eC (.bl false))) (sSkip)) (sSeq (sIf (tOf (eBin (dEq true) (eLst (lCons (eCall t 36 (lCons (eVar 1) (lCons (eC (.int 7)) (lCons (eC (.int 3)) (lNil))))) (lCons (eCall t 32 (lCons (eVar 1) (lCons (eC (.int 7)) (lCons (eC (.int 3)) (lCons (eC (.int 4)) (lNil)))))) (lCons (eCall t 34 (lCons (eVar 1) (lCons (eC (.int 7)) (lCons (eC (.int 3)) (lCons (eC (.int 4)) (lNil)))))) (lCons (eCall t 31 (lCons (eVar 1) (lCons (eC (.int 7)) (lCons (eTup (lCons (eC (.int 0)) (lCons (eC (.int 1)) (lNil)))) (lNil))))) (lNil)))))) (eLst (lCons (eC (.int 4)) (lCons (eTup (lCons (eC (.int 0)) (lCons (eC (.int 0)) (lCons (eC (.int 1)) (lCons (eC (.int 1)) (lNil)))))) (lCons (eTup (lCons (eC (.int 0)) (lCons (eC (.int 6)) (lNil)))) (lCons (eTup (lCons (eC (.int 4)) (lCons (eC (.int 6)) (lNil)))) (lNil)))))))) (sRet (eC (.bl false))) (sSkip)) (sSeq (sIf (tOrr (tOf (eBin (dEq true) (eCall t 36 (lCons (eVar 1) (lCons (eVar 2) (lCons (eC (.int 3)) (lNil))))) (eBin dMulA (eC (.int 5)) (eBin dPow (eC (.int 10)) (eC (.int 19)))))) (tOf (eBin (dIs true) (eCall t 30 (lCons (eVar 1) (lCons (eVar 2) (lCons (eC (.int 0)) (lCons (eBin dPow (eC (.int 10)) (eC (.int 19))) (lNil)))))) (eC (.bl true))))) (sRet (eC (.bl false))) (sSkip)) (sRet (eBin (dEq false) (eLc (itE (eTup (lCons (eC (.int 1)) (lCons (eC (.int 2)) (lCons (eC (.int 3)) (lNil)))))) (.nm 4) [4] (tYesE) (d45_e0 t)) (eLst (lCons (eC (.bl true)) (lCons (eC (.bl true)) (lCons (eC (.bl false)) (lNil))))))))))))
abbrev st46 : Stmt := topAt 48
abbrev nm46 : List Str := ["_law_script", "_law_p", "_law_l", "_law_r", "_law_threes", "_law_halves", "_law_three", "_law_other", "_law_many", "_law_n", "_law_end", "_law_i", "_law_j"]
def d46_e0 (t : Tab) : EvE := eCall t 11 (lCons (eVar 4) (lCons (eVar 9) (lNil)))
def d46_e1 (t : Tab) : EvE := eCall t 11 (lCons (eCall t 44 (lCons (eLst (lCons (eVar 3) (lNil))) (lCons (eVar 10) (lNil)))) (lCons (eC (.int 8)) (lNil)))
def d46_e2 (t : Tab) : EvE := eCall t 34 (lCons (eVar 5) (lCons (eVar 8) (lCons (eC (.int 0)) (lCons (eVar 11) (lNil)))))
def d46_e3 (t : Tab) : EvE := eCall t 36 (lCons (eVar 5) (lCons (eBin dAdd (eVar 8) (eC (.int 1))) (lCons (eVar 11) (lNil))))
def d46_e4 (t : Tab) : EvE := eCall t 35 (lCons (eVar 5) (lCons (eC (.int 4)) (lCons (eVar 11) (lCons (eVar 12) (lNil)))))
/-- law -/
def d46 (t : Tab) : EvS :=
  sSeq (sAsg (.nm 1) (eTup (lCons (eTup (lNil)) (lCons (eTup (lNil)) (lNil))))) (sSeq (sAsg (.tp [.nm 2, .nm 3]) (eTup (lCons (eTup (lCons (eVar 1) (lCons (eTup (lCons (eVar 1) (lCons (eTup (lNil)) (lNil)))) (lNil)))) (lCons (eTup (lCons (eVar 1) (lCons (eTup (lCons (eTup (lNil)) (lCons (eVar 1) (lNil)))) (lNil)))) (lNil))))) (sSeq (sAsg (.tp [.nm 4, .nm 5]) (eTup (lCons (eCall t 44 (lCons (eLst (lCons (eVar 2) (lCons (eVar 3) (lNil)))) (lCons (eC (.str "right")) (lNil)))) (lCons (eCall t 44 (lCons (eTup (lNil)) (lCons (eTup (lCons (eTup (lCons (eVar 1) (lNil))) (lNil))) (lNil)))) (lNil))))) (sSeq (sPar [6, 7] (lCons (eTup (lCons (eVar 1) (lCons (eTup (lNil)) (lNil)))) (lCons (eTup (lCons (eTup (lNil)) (lCons (eVar 1) (lNil)))) (lNil)))) (sSeq (sIf (tOf (eBin (dEq true) (eLc (itE (eTup (lCons (eC (.int 1)) (lCons (eC (.int 2)) (lCons (eC (.int 3)) (lCons (eC (.int 4)) (lCons (eC (.int 5)) (lCons (eC (.int 7)) (lNil))))))))) (.nm 9) [9] (tYesE) (d46_e0 t)) (eLst (lCons (eTup (lNil)) (lCons (eVar 1) (lCons (eVar 6) (lCons (eTup (lCons (eVar 6) (lCons (eTup (lNil)) (lNil)))) (lCons (eTup (lCons (eVar 6) (lCons (eVar 1) (lNil)))) (lCons (eTup (lCons (eVar 6) (lCons (eTup (lCons (eVar 6) (lCons (eTup (lNil)) (lNil)))) (lNil)))) (lNil)))))))))) (sRet (eC (.bl false))) (sSkip)) (sSeq (sIf (tOrr (tOf (eBin (dEq true) (eCall t 11 (lCons (eVar 4) (lCons (eC (.int 13)) (lNil)))) (eTup (lCons (eTup (lCons (eVar 6) (lCons (eTup (lCons (eVar 6) (lCons (eVar 6) (lNil)))) (lNil)))) (lCons (eTup (lCons (eVar 6) (lCons (eTup (lNil)) (lNil)))) (lNil)))))) (tOrr (tOf (eBin (dEq true) (eCall t 36 (lCons (eVar 4) (lCons (eC (.int 13)) (lCons (eC (.int 12)) (lNil))))) (eC (.int 2)))) (tOf (eBin (dEq true) (eCall t 36 (lCons (eVar 4) (lCons (eC (.int 13)) (lCons (eC (.int 0)) (lNil))))) (eC (.int 4)))))) (sRet (eC (.bl false))) (sSkip)) (sSeq (sIf (tOf (eBin (dEq true) (eLc (itE (eTup (lCons (eC (.str "left")) (lCons (eC (.str "right")) (lNil))))) (.nm 10) [10] (tYesE) (d46_e1 t)) (eLst (lCons (eTup (lCons (eTup (lCons (eVar 7) (lCons (eVar 7) (lNil)))) (lCons (eVar 1) (lNil)))) (lCons (eTup (lCons (eVar 7) (lCons (eTup (lCons (eVar 7) (lCons (eVar 1) (lNil)))) (lNil)))) (lNil)))))) (sRet (eC (.bl false))) (sSkip)) (sSeq (sIf (tOf (eBin (dEq true) (eCall t 11 (lCons (eVar 5) (lCons (eC (.int 7)) (lNil)))) (eTup (lCons (eTup (lCons (eVar 1) (lCons (eVar 1) (lNil)))) (lCons (eTup (lCons (eVar 1) (lCons (eTup (lNil)) (lNil)))) (lNil)))))) (sRet (eC (.bl false))) (sSkip)) (sSeq (sAsg (.nm 8) (eBin dPow (eC (.int 2)) (eC (.int 60)))) (sSeq (sIf (tOf (eBin (dEq true) (eLc (itE (eTup (lCons (eC (.int 1)) (lCons (eC (.int 32)) (lCons (eBin dPow (eC (.int 2)) (eC (.int 59))) (lNil)))))) (.nm 11) [11] (tYesE) (d46_e2 t)) (eLst (lCons (eTup (lCons (eC (.int 0)) (lCons (eC (.int 2)) (lNil)))) (lCons (eTup (lCons (eC (.int 0)) (lCons (eC (.int 64)) (lNil)))) (lCons (eTup (lCons (eC (.int 0)) (lCons (eVar 8) (lNil)))) (lNil))))))) (sRet (eC (.bl false))) (sSkip)) (sSeq (sIf (tOf (eBin (dEq true) (eLc (itE (eTup (lCons (eC (.int 0)) (lCons (eVar 8) (lNil))))) (.nm 11) [11] (tYesE) (d46_e3 t)) (eLst (lCons (eC (.int 61)) (lCons (eC (.int 1)) (lNil)))))) (sRet (eC (.bl false))) (sSkip)) (sSeq (sIf (tOf (eBin (dEq true) (eCall t 32 (lCons (eVar 5) (lCons (eBin dAdd (eVar 8) (eC (.int 1))) (lCons (eVar 8) (lCons (eBin dAdd (eVar 8) (eC (.int 1))) (lNil)))))) (eTup (lCons (eC (.int 1)) (lNil))))) (sRet (eC (.bl false))) (sSkip)) (sSeq (sIf (tOf (eBin (dEq true) (eLc (itE (eLst (lCons (eTup (lCons (eC (.int 0)) (lCons (eC (.int 3)) (lNil)))) (lCons (eTup (lCons (eC (.int 1)) (lCons (eC (.int 4)) (lNil)))) (lCons (eTup (lCons (eC (.int 0)) (lCons (eC (.int 4)) (lNil)))) (lNil)))))) (.tp [.nm 11, .nm 12]) [11, 12] (tYesE) (d46_e4 t)) (eLst (lCons (eTup (lCons (eC (.int 2)) (lCons (eC (.int 4)) (lNil)))) (lCons (eTup (lCons (eC (.int 0)) (lCons (eC (.int 2)) (lNil)))) (lCons (eC .non) (lNil))))))) (sRet (eC (.bl false))) (sSkip)) (sSeq (sIf (tOf (eBin (dIn true) (eCall t 35 (lCons (eVar 5) (lCons (eC (.int 4)) (lCons (eC (.int 1)) (lCons (eC (.int 3)) (lNil)))))) (eLst (lCons (eTup (lCons (eC (.int 0)) (lCons (eC (.int 2)) (lNil)))) (lCons (eTup (lCons (eC (.int 2)) (lCons (eC (.int 4)) (lNil)))) (lNil)))))) (sRet (eC (.bl false))) (sSkip)) (sRet (eCall t 45 lNil)))))))))))))))
def Prog : List Fn := [⟨1, 1, d0⟩, ⟨1, 1, d1⟩, ⟨4, 1, d2⟩, ⟨4, 1, d3⟩, ⟨4, 2, d4⟩, ⟨3, 1, d5⟩, ⟨4, 1, d6⟩, ⟨1, 1, d7⟩, ⟨2, 2, d8⟩, ⟨3, 2, d9⟩, ⟨6, 2, d10⟩, ⟨4, 2, d11⟩, ⟨4, 2, d12⟩, ⟨4, 2, d13⟩, ⟨6, 3, d14⟩, ⟨5, 1, d15⟩, ⟨3, 2, d16⟩, ⟨8, 2, d17⟩, ⟨8, 2, d18⟩, ⟨3, 3, d19⟩, ⟨3, 3, d20⟩, ⟨6, 2, d21⟩, ⟨6, 3, d22⟩, ⟨8, 2, d23⟩, ⟨1, 1, d24⟩, ⟨10, 2, d25⟩, ⟨9, 4, d26⟩, ⟨8, 3, d27⟩, ⟨3, 2, d28⟩, ⟨8, 4, d29⟩, ⟨4, 4, d30⟩, ⟨7, 3, d31⟩, ⟨9, 4, d32⟩, ⟨3, 2, d33⟩, ⟨5, 4, d34⟩, ⟨8, 4, d35⟩, ⟨11, 3, d36⟩, ⟨4, 1, d37⟩, ⟨3, 2, d38⟩, ⟨4, 3, d39⟩, ⟨2, 2, d40⟩, ⟨1, 1, d41⟩, ⟨1, 1, d42⟩, ⟨2, 2, d43⟩, ⟨3, 2, d44⟩, ⟨5, 0, d45⟩, ⟨13, 1, d46⟩]
structure Wd (K : PySem.W.Frag) (T : Tt) (mg : Str → Option Value) (ad : Nat → Addr) : Prop where
  m0 : mg "is_integer" = some (.ref (ad 0))
  k0 : PySem.W.keepIn K (.ref (ad 0)) = true
  m1 : mg "is_number" = some (.ref (ad 1))
  k1 : PySem.W.keepIn K (.ref (ad 1)) = true
  m2 : mg "wrong_shape" = some (.ref (ad 2))
  k2 : PySem.W.keepIn K (.ref (ad 2)) = true
  m3 : mg "size_of" = some (.ref (ad 3))
  k3 : PySem.W.keepIn K (.ref (ad 3)) = true
  m4 : mg "comb" = some (.ref (ad 4))
  k4 : PySem.W.keepIn K (.ref (ad 4)) = true
  m5 : mg "wrong_sizes" = some (.ref (ad 5))
  k5 : PySem.W.keepIn K (.ref (ad 5)) = true
  m6 : mg "wrong_table" = some (.ref (ad 6))
  k6 : PySem.W.keepIn K (.ref (ad 6)) = true
  m7 : mg "table_size" = some (.ref (ad 7))
  k7 : PySem.W.keepIn K (.ref (ad 7)) = true
  m8 : mg "entry" = some (.ref (ad 8))
  k8 : PySem.W.keepIn K (.ref (ad 8)) = true
  m9 : mg "filled" = some (.ref (ad 9))
  k9 : PySem.W.keepIn K (.ref (ad 9)) = true
  m10 : mg "pressed" = some (.ref (ad 10))
  k10 : PySem.W.keepIn K (.ref (ad 10)) = true
  m11 : mg "shape" = some (.ref (ad 11))
  k11 : PySem.W.keepIn K (.ref (ad 11)) = true
  m12 : mg "counts" = some (.ref (ad 12))
  k12 : PySem.W.keepIn K (.ref (ad 12)) = true
  m13 : mg "widths" = some (.ref (ad 13))
  k13 : PySem.W.keepIn K (.ref (ad 13)) = true
  m14 : mg "row_behind" = some (.ref (ad 14))
  k14 : PySem.W.keepIn K (.ref (ad 14)) = true
  m15 : mg "shape_lumps" = some (.ref (ad 15))
  k15 : PySem.W.keepIn K (.ref (ad 15)) = true
  m16 : mg "comb_lumps" = some (.ref (ad 16))
  k16 : PySem.W.keepIn K (.ref (ad 16)) = true
  m17 : mg "stretch_lumps" = some (.ref (ad 17))
  k17 : PySem.W.keepIn K (.ref (ad 17)) = true
  m18 : mg "all_lumps" = some (.ref (ad 18))
  k18 : PySem.W.keepIn K (.ref (ad 18)) = true
  m19 : mg "comb_parts" = some (.ref (ad 19))
  k19 : PySem.W.keepIn K (.ref (ad 19)) = true
  me20 : Meth K (ad 28) "__init__" (ad 20)
  me21 : Meth K (ad 28) "places" (ad 21)
  me22 : Meth K (ad 28) "stretch" (ad 22)
  me23 : Meth K (ad 28) "opened" (ad 23)
  me24 : Meth K (ad 28) "root" (ad 24)
  me25 : Meth K (ad 28) "parts" (ad 25)
  me26 : Meth K (ad 28) "narrowed" (ad 26)
  me27 : Meth K (ad 28) "least" (ad 27)
  m28 : mg "Rows" = some (.ref (ad 28))
  k28 : PySem.W.keepIn K (.ref (ad 28)) = true
  t1 : T[1]? = some (ad 28)
  cl1 : Cls K (ad 28)
  mk1 : Mk K (ad 28) (ad 20)
  na1_plan : NoAttr K (ad 28) "plan"
  na1_many : NoAttr K (ad 28) "many"
  na1_width : NoAttr K (ad 28) "width"
  ic1 : C8.InsC K (ad 28)
  m29 : mg "are_lump_numbers" = some (.ref (ad 29))
  k29 : PySem.W.keepIn K (.ref (ad 29)) = true
  m30 : mg "is_lump" = some (.ref (ad 30))
  k30 : PySem.W.keepIn K (.ref (ad 30)) = true
  m31 : mg "lump_at" = some (.ref (ad 31))
  k31 : PySem.W.keepIn K (.ref (ad 31)) = true
  m32 : mg "path_of" = some (.ref (ad 32))
  k32 : PySem.W.keepIn K (.ref (ad 32)) = true
  m33 : mg "need_places" = some (.ref (ad 33))
  k33 : PySem.W.keepIn K (.ref (ad 33)) = true
  m34 : mg "least_lump" = some (.ref (ad 34))
  k34 : PySem.W.keepIn K (.ref (ad 34)) = true
  m35 : mg "crossing" = some (.ref (ad 35))
  k35 : PySem.W.keepIn K (.ref (ad 35)) = true
  m36 : mg "depth" = some (.ref (ad 36))
  k36 : PySem.W.keepIn K (.ref (ad 36)) = true
  m37 : mg "wrong_member" = some (.ref (ad 37))
  k37 : PySem.W.keepIn K (.ref (ad 37)) = true
  m38 : mg "wrong_plan" = some (.ref (ad 38))
  k38 : PySem.W.keepIn K (.ref (ad 38)) = true
  me39 : Meth K (ad 44) "__init__" (ad 39)
  me40 : Meth K (ad 44) "__eq__" (ad 40)
  me41 : Meth K (ad 44) "tables" (ad 41)
  me42 : Meth K (ad 44) "end" (ad 42)
  me43 : Meth K (ad 44) "stage" (ad 43)
  m44 : mg "Plan" = some (.ref (ad 44))
  k44 : PySem.W.keepIn K (.ref (ad 44)) = true
  t0 : T[0]? = some (ad 44)
  cl0 : Cls K (ad 44)
  mk0 : Mk K (ad 44) (ad 39)
  na0_own_tables : NoAttr K (ad 44) "own_tables"
  na0_own_end : NoAttr K (ad 44) "own_end"
  ic0 : C8.InsC K (ad 44)
  m45 : mg "_law_example_right" = some (.ref (ad 45))
  k45 : PySem.W.keepIn K (.ref (ad 45)) = true
  m46 : mg "law" = some (.ref (ad 46))
  k46 : PySem.W.keepIn K (.ref (ad 46)) = true
  kf : KitF K T
  c_ENDS : ConsK K mg "ENDS" ["left", "right"]
  i_MOST : ∃ t, mg "MOST" = some (.int 400 t)
  b_bool : mg "bool" = none
  b_enumerate : mg "enumerate" = none
  b_int : mg "int" = none
  b_isinstance : mg "isinstance" = none
  b_len : mg "len" = none
  b_list : mg "list" = none
  b_max : mg "max" = none
  b_min : mg "min" = none
  b_range : mg "range" = none
  b_sorted : mg "sorted" = none
  b_str : mg "str" = none
  b_tuple : mg "tuple" = none
theorem boot_ty_bool : bootBuiltins "bool" = some (.type "bool") := by decide +kernel
theorem boot_ty_int : bootBuiltins "int" = some (.type "int") := by decide +kernel
theorem boot_bi_isinstance : bootBuiltins "isinstance" = some (.builtin "isinstance") := by decide +kernel
theorem boot_bi_len : bootBuiltins "len" = some (.builtin "len") := by decide +kernel
theorem boot_ty_list : bootBuiltins "list" = some (.type "list") := by decide +kernel
theorem boot_bi_max : bootBuiltins "max" = some (.builtin "max") := by decide +kernel
theorem boot_bi_min : bootBuiltins "min" = some (.builtin "min") := by decide +kernel
theorem boot_bi_sorted : bootBuiltins "sorted" = some (.builtin "sorted") := by decide +kernel
theorem boot_ty_str : bootBuiltins "str" = some (.type "str") := by decide +kernel
theorem boot_ty_tuple : bootBuiltins "tuple" = some (.type "tuple") := by decide +kernel
theorem sc0 : FnScope nm0 ["value"] (defScope st0) := ⟨rfl, rfl, rfl, by decide +kernel, rfl, by decide +kernel, by decide +kernel⟩
abbrev X0 (P : Program) (w : World) (K : PySem.W.Frag) (mg : Str → Option Value) (base : Heap) (f : Addr) (cdv : Value) (A : Around) (outer : List PySem.Env) (s : Shared) (H : Hp) (E : XK) : Cx := cxOf (L2.CX P w) P w K mg base nm0 "is_integer" (defScope st0) f cdv A outer s H E
set_option maxHeartbeats 4000000 in
theorem dv0 {G : Gd} {P : Program} {w : World} {mg : Str → Option Value} {base : Heap} {k : Nat} {ad : Nat → Addr} {t : Tab} (Z : Wd G.K G.T mg ad) (F : ∀ i, FG P w G.K mg base (k + 2) (ad i) (spT G (t i)))
    {f : Addr} {cdv : Value} {A : Around} {outer : List PySem.Env} {s : Shared} {H : Hp} {E : XK} {W : WX} (ok : Okk G (X0 P w G.K mg base f cdv A outer s H E) (k + 2)) (tk : Takes (X0 P w G.K mg base f cdv A outer s H E) W)
    (hp : PassesOwn (model P w) (X0 P w G.K mg base f cdv A outer s H E).A (X0 P w G.K mg base f cdv A outer s H E).env (X0 P w G.K mg base f cdv A outer s H E).xe) :
    PSsv G (X0 P w G.K mg base f cdv A outer s H E) W (d0 t) (defBody st0) :=
  sv_one (sv_ret (ev_and ok.hK (ev_callB cr_isi (cs_isi ok.hK Z.kf) (by rfl) Z.b_isinstance boot_bi_isinstance (lv_cons (ev_var (i := 0)) (lv_cons (ev_ty (by rfl) Z.b_int boot_ty_int) (lv_nil)))) (ev_or1 (ev_not ok.hK (ev_callB cr_isi (cs_isi ok.hK Z.kf) (by rfl) Z.b_isinstance boot_bi_isinstance (lv_cons (ev_var (i := 0)) (lv_cons (ev_ty (by rfl) Z.b_bool boot_ty_bool) (lv_nil))))))))
theorem sc1 : FnScope nm1 ["value"] (defScope st1) := ⟨rfl, rfl, rfl, by decide +kernel, rfl, by decide +kernel, by decide +kernel⟩
abbrev X1 (P : Program) (w : World) (K : PySem.W.Frag) (mg : Str → Option Value) (base : Heap) (f : Addr) (cdv : Value) (A : Around) (outer : List PySem.Env) (s : Shared) (H : Hp) (E : XK) : Cx := cxOf (L2.CX P w) P w K mg base nm1 "is_number" (defScope st1) f cdv A outer s H E
set_option maxHeartbeats 4000000 in
theorem dv1 {G : Gd} {P : Program} {w : World} {mg : Str → Option Value} {base : Heap} {k : Nat} {ad : Nat → Addr} {t : Tab} (Z : Wd G.K G.T mg ad) (F : ∀ i, FG P w G.K mg base (k + 2) (ad i) (spT G (t i)))
    {f : Addr} {cdv : Value} {A : Around} {outer : List PySem.Env} {s : Shared} {H : Hp} {E : XK} {W : WX} (ok : Okk G (X1 P w G.K mg base f cdv A outer s H E) (k + 2)) (tk : Takes (X1 P w G.K mg base f cdv A outer s H E) W)
    (hp : PassesOwn (model P w) (X1 P w G.K mg base f cdv A outer s H E).A (X1 P w G.K mg base f cdv A outer s H E).env (X1 P w G.K mg base f cdv A outer s H E).xe) :
    PSsv G (X1 P w G.K mg base f cdv A outer s H E) W (d1 t) (defBody st1) :=
  sv_one (sv_ret (ev_and ok.hK (ev_call (i := 0) (F 0) ok.room ok.gu tk Z.m0 Z.k0 (lv_cons (ev_var (i := 0)) (lv_nil))) (ev_or1 (ev_cmp op_ge (ds_cmp _) (ev_var (i := 0)) (ev_int) (hm := by with_unfolding_all rfl)))))
theorem sc2 : FnScope nm2 ["value"] (defScope st2) := ⟨rfl, rfl, rfl, by decide +kernel, rfl, by decide +kernel, by decide +kernel⟩
abbrev X2 (P : Program) (w : World) (K : PySem.W.Frag) (mg : Str → Option Value) (base : Heap) (f : Addr) (cdv : Value) (A : Around) (outer : List PySem.Env) (s : Shared) (H : Hp) (E : XK) : Cx := cxOf (L2.CX P w) P w K mg base nm2 "wrong_shape" (defScope st2) f cdv A outer s H E
set_option maxHeartbeats 4000000 in
theorem dv2 {G : Gd} {P : Program} {w : World} {mg : Str → Option Value} {base : Heap} {k : Nat} {ad : Nat → Addr} {t : Tab} (Z : Wd G.K G.T mg ad) (F : ∀ i, FG P w G.K mg base (k + 2) (ad i) (spT G (t i)))
    {f : Addr} {cdv : Value} {A : Around} {outer : List PySem.Env} {s : Shared} {H : Hp} {E : XK} {W : WX} (ok : Okk G (X2 P w G.K mg base f cdv A outer s H E) (k + 2)) (tk : Takes (X2 P w G.K mg base f cdv A outer s H E) W)
    (hp : PassesOwn (model P w) (X2 P w G.K mg base f cdv A outer s H E).A (X2 P w G.K mg base f cdv A outer s H E).env (X2 P w G.K mg base f cdv A outer s H E).xe) :
    PSsv G (X2 P w G.K mg base f cdv A outer s H E) W (d2 t) (defBody st2) :=
  sv_cons (sv_if (tv_bool (wv_or (tv_not (tv_val ok.hK (ev_callB cr_isi (cs_isi ok.hK Z.kf) (by rfl) Z.b_isinstance boot_bi_isinstance (lv_cons (ev_var (i := 0)) (lv_cons (ev_ty (by rfl) Z.b_tuple boot_ty_tuple) (lv_nil)))))) (wv_or1 (tv_cmp (op_notInM ok.u1) (ds_in ok.hK true) (ev_callB cr_lenV (cs_len ok.hK) (by rfl) Z.b_len boot_bi_len (lv_cons (ev_var (i := 0)) (lv_nil))) (ev_tup (lv_cons (ev_int) (lv_cons (ev_int) (lv_nil)))) (hm := by with_unfolding_all rfl))))) (sv_one (sv_ret (ev_tup (lv_nil)))) (sv_nil))
    (sv_cons (sv_for hp ok.calm (iv_enum ok.hK (by rfl) Z.b_enumerate (lv_cons (ev_var (i := 0)) (lv_nil))) (gv_tup ok.hK ok.calm (gsv_cons (gv_name (i := 1) ok.nd) (gsv_cons (gv_name (i := 2) ok.nd) (gsv_nil))) rfl) (sv_cons (sv_set (i := 3) ok.nd (ev_call (i := 2) (F 2) ok.room ok.gu tk Z.m2 Z.k2 (lv_cons (ev_var (i := 2)) (lv_nil))))
    (sv_one (sv_if (tv_cmp op_isnotV (ds_is true) (ev_var (i := 3)) (ev_non) (hm := by with_unfolding_all rfl)) (sv_one (sv_ret (ev_tup (lv_cons (ev_var (i := 1)) (lv_star ok.hK (ev_var (i := 3)) (lv_nil)))))) (sv_nil)))))
    (sv_one (sv_ret (ev_non))))
theorem sc3 : FnScope nm3 ["shape"] (defScope st3) := ⟨rfl, rfl, rfl, by decide +kernel, rfl, by decide +kernel, by decide +kernel⟩
abbrev X3 (P : Program) (w : World) (K : PySem.W.Frag) (mg : Str → Option Value) (base : Heap) (f : Addr) (cdv : Value) (A : Around) (outer : List PySem.Env) (s : Shared) (H : Hp) (E : XK) : Cx := cxOf (L2.CX P w) P w K mg base nm3 "size_of" (defScope st3) f cdv A outer s H E
set_option maxHeartbeats 4000000 in
theorem dv3 {G : Gd} {P : Program} {w : World} {mg : Str → Option Value} {base : Heap} {k : Nat} {ad : Nat → Addr} {t : Tab} (Z : Wd G.K G.T mg ad) (F : ∀ i, FG P w G.K mg base (k + 2) (ad i) (spT G (t i)))
    {f : Addr} {cdv : Value} {A : Around} {outer : List PySem.Env} {s : Shared} {H : Hp} {E : XK} {W : WX} (ok : Okk G (X3 P w G.K mg base f cdv A outer s H E) (k + 2)) (tk : Takes (X3 P w G.K mg base f cdv A outer s H E) W)
    (hp : PassesOwn (model P w) (X3 P w G.K mg base f cdv A outer s H E).A (X3 P w G.K mg base f cdv A outer s H E).env (X3 P w G.K mg base f cdv A outer s H E).xe) :
    PSsv G (X3 P w G.K mg base f cdv A outer s H E) W (d3 t) (defBody st3) :=
  sv_cons (sv_par (i := 1) (j := 2) ok.calm ok.nd (lv_cons (ev_int) (lv_cons (ev_lst (lv_cons (ev_var (i := 0)) (lv_nil))) (lv_nil))))
    (sv_cons (sv_while (n := FUEL) hp (tv_cmp (op_neM ok.u1) (ds_eq ok.hK true) (ev_var (i := 2)) (ev_lst (lv_nil)) (hm := by with_unfolding_all rfl)) (sv_cons (sv_set (i := 3) ok.nd (ev_ml0 ok.hK PySem.F.slot_list_pop PySem.F.type_list_pop mt_popA ms_pop (ev_var (i := 2))))
    (sv_cons (sv_aug (i := 1) ok.nd iop_add ds_addI (ev_if (tv_cmp (op_eqM ok.u1) (ds_eq ok.hK false) (ev_var (i := 3)) (ev_tup (lv_nil)) (hm := by with_unfolding_all rfl)) (ev_int) (ev_int)))
    (sv_one (sv_expr (ev_ml ok.hK PySem.F.slot_list_extend PySem.F.type_list_extend mt_extA (ms_extend ok.hK) (ev_var (i := 2)) (lv_cons (ev_var (i := 3)) (lv_nil))))))))
    (sv_one (sv_ret (ev_var (i := 1)))))
theorem sc4 : FnScope nm4 ["n", "side"] (defScope st4) := ⟨rfl, rfl, rfl, by decide +kernel, rfl, by decide +kernel, by decide +kernel⟩
abbrev X4 (P : Program) (w : World) (K : PySem.W.Frag) (mg : Str → Option Value) (base : Heap) (f : Addr) (cdv : Value) (A : Around) (outer : List PySem.Env) (s : Shared) (H : Hp) (E : XK) : Cx := cxOf (L2.CX P w) P w K mg base nm4 "comb" (defScope st4) f cdv A outer s H E
set_option maxHeartbeats 4000000 in
theorem dv4 {G : Gd} {P : Program} {w : World} {mg : Str → Option Value} {base : Heap} {k : Nat} {ad : Nat → Addr} {t : Tab} (Z : Wd G.K G.T mg ad) (F : ∀ i, FG P w G.K mg base (k + 2) (ad i) (spT G (t i)))
    {f : Addr} {cdv : Value} {A : Around} {outer : List PySem.Env} {s : Shared} {H : Hp} {E : XK} {W : WX} (ok : Okk G (X4 P w G.K mg base f cdv A outer s H E) (k + 2)) (tk : Takes (X4 P w G.K mg base f cdv A outer s H E) W)
    (hp : PassesOwn (model P w) (X4 P w G.K mg base f cdv A outer s H E).A (X4 P w G.K mg base f cdv A outer s H E).env (X4 P w G.K mg base f cdv A outer s H E).xe) :
    PSsv G (X4 P w G.K mg base f cdv A outer s H E) W (d4 t) (defBody st4) :=
  sv_cons (sv_set (i := 2) ok.nd (ev_tup (lv_nil)))
    (sv_cons (sv_for hp ok.calm (iv_range1 (by rfl) Z.b_range (lv_cons (ev_bin op_sub ds_sub (ev_var (i := 0)) (ev_int)) (lv_nil))) (gv_name (i := 3) ok.nd) (sv_one (sv_set (i := 2) ok.nd (ev_if (tv_cmp (op_eqM ok.u1) (ds_eq ok.hK false) (ev_var (i := 1)) (ev_str) (hm := by with_unfolding_all rfl)) (ev_tup (lv_cons (ev_var (i := 2)) (lv_cons (ev_tup (lv_nil)) (lv_nil)))) (ev_tup (lv_cons (ev_tup (lv_nil)) (lv_cons (ev_var (i := 2)) (lv_nil))))))))
    (sv_one (sv_ret (ev_var (i := 2)))))
theorem sc5 : FnScope nm5 ["shapes"] (defScope st5) := ⟨rfl, rfl, rfl, by decide +kernel, rfl, by decide +kernel, by decide +kernel⟩
abbrev X5 (P : Program) (w : World) (K : PySem.W.Frag) (mg : Str → Option Value) (base : Heap) (f : Addr) (cdv : Value) (A : Around) (outer : List PySem.Env) (s : Shared) (H : Hp) (E : XK) : Cx := cxOf (L2.CX P w) P w K mg base nm5 "wrong_sizes" (defScope st5) f cdv A outer s H E
set_option maxHeartbeats 4000000 in
theorem dv5 {G : Gd} {P : Program} {w : World} {mg : Str → Option Value} {base : Heap} {k : Nat} {ad : Nat → Addr} {t : Tab} (Z : Wd G.K G.T mg ad) (F : ∀ i, FG P w G.K mg base (k + 2) (ad i) (spT G (t i)))
    {f : Addr} {cdv : Value} {A : Around} {outer : List PySem.Env} {s : Shared} {H : Hp} {E : XK} {W : WX} (ok : Okk G (X5 P w G.K mg base f cdv A outer s H E) (k + 2)) (tk : Takes (X5 P w G.K mg base f cdv A outer s H E) W)
    (hp : PassesOwn (model P w) (X5 P w G.K mg base f cdv A outer s H E).A (X5 P w G.K mg base f cdv A outer s H E).env (X5 P w G.K mg base f cdv A outer s H E).xe) :
    PSsv G (X5 P w G.K mg base f cdv A outer s H E) W (d5 t) (defBody st5) :=
  sv_cons (sv_for hp ok.calm (iv_enum ok.hK (by rfl) Z.b_enumerate (lv_cons (ev_var (i := 0)) (lv_nil))) (gv_tup ok.hK ok.calm (gsv_cons (gv_name (i := 1) ok.nd) (gsv_cons (gv_name (i := 2) ok.nd) (gsv_nil))) rfl) (sv_one (sv_if (tv_cmp (op_neM ok.u1) (ds_eq ok.hK true) (ev_call (i := 3) (F 3) ok.room ok.gu tk Z.m3 Z.k3 (lv_cons (ev_var (i := 2)) (lv_nil))) (ev_bin op_addV (ds_add ok.hK) (ev_var (i := 1)) (ev_int)) (hm := by with_unfolding_all rfl)) (sv_one (sv_ret (ev_tup (lv_cons (ev_var (i := 1)) (lv_nil))))) (sv_nil))))
    (sv_one (sv_ret (ev_non)))
theorem sc6 : FnScope nm6 ["value"] (defScope st6) := ⟨rfl, rfl, rfl, by decide +kernel, rfl, by decide +kernel, by decide +kernel⟩
abbrev X6 (P : Program) (w : World) (K : PySem.W.Frag) (mg : Str → Option Value) (base : Heap) (f : Addr) (cdv : Value) (A : Around) (outer : List PySem.Env) (s : Shared) (H : Hp) (E : XK) : Cx := cxOf (L2.CX P w) P w K mg base nm6 "wrong_table" (defScope st6) f cdv A outer s H E
set_option maxHeartbeats 4000000 in
theorem dv6 {G : Gd} {P : Program} {w : World} {mg : Str → Option Value} {base : Heap} {k : Nat} {ad : Nat → Addr} {t : Tab} (Z : Wd G.K G.T mg ad) (F : ∀ i, FG P w G.K mg base (k + 2) (ad i) (spT G (t i)))
    {f : Addr} {cdv : Value} {A : Around} {outer : List PySem.Env} {s : Shared} {H : Hp} {E : XK} {W : WX} (ok : Okk G (X6 P w G.K mg base f cdv A outer s H E) (k + 2)) (tk : Takes (X6 P w G.K mg base f cdv A outer s H E) W)
    (hp : PassesOwn (model P w) (X6 P w G.K mg base f cdv A outer s H E).A (X6 P w G.K mg base f cdv A outer s H E).env (X6 P w G.K mg base f cdv A outer s H E).xe) :
    PSsv G (X6 P w G.K mg base f cdv A outer s H E) W (d6 t) (defBody st6) :=
  sv_cons (sv_if (tv_bool (wv_or (tv_not (tv_val ok.hK (ev_callB cr_isi (cs_isi ok.hK Z.kf) (by rfl) Z.b_isinstance boot_bi_isinstance (lv_cons (ev_var (i := 0)) (lv_cons (ev_ty (by rfl) Z.b_tuple boot_ty_tuple) (lv_nil)))))) (wv_or1 (tv_cmp (op_eqM ok.u1) (ds_eq ok.hK false) (ev_var (i := 0)) (ev_tup (lv_nil)) (hm := by with_unfolding_all rfl))))) (sv_one (sv_ret (ev_tup (lv_nil)))) (sv_nil))
    (sv_cons (sv_for hp ok.calm (iv_enum ok.hK (by rfl) Z.b_enumerate (lv_cons (ev_var (i := 0)) (lv_nil))) (gv_tup ok.hK ok.calm (gsv_cons (gv_name (i := 1) ok.nd) (gsv_cons (gv_name (i := 2) ok.nd) (gsv_nil))) rfl) (sv_cons (sv_set (i := 3) ok.nd (ev_call (i := 2) (F 2) ok.room ok.gu tk Z.m2 Z.k2 (lv_cons (ev_var (i := 2)) (lv_nil))))
    (sv_one (sv_if (tv_cmp op_isnotV (ds_is true) (ev_var (i := 3)) (ev_non) (hm := by with_unfolding_all rfl)) (sv_one (sv_ret (ev_tup (lv_cons (ev_var (i := 1)) (lv_star ok.hK (ev_var (i := 3)) (lv_nil)))))) (sv_nil)))))
    (sv_one (sv_ret (ev_call (i := 5) (F 5) ok.room ok.gu tk Z.m5 Z.k5 (lv_cons (ev_var (i := 0)) (lv_nil))))))
theorem sc7 : FnScope nm7 ["table"] (defScope st7) := ⟨rfl, rfl, rfl, by decide +kernel, rfl, by decide +kernel, by decide +kernel⟩
abbrev X7 (P : Program) (w : World) (K : PySem.W.Frag) (mg : Str → Option Value) (base : Heap) (f : Addr) (cdv : Value) (A : Around) (outer : List PySem.Env) (s : Shared) (H : Hp) (E : XK) : Cx := cxOf (L2.CX P w) P w K mg base nm7 "table_size" (defScope st7) f cdv A outer s H E
set_option maxHeartbeats 4000000 in
theorem dv7 {G : Gd} {P : Program} {w : World} {mg : Str → Option Value} {base : Heap} {k : Nat} {ad : Nat → Addr} {t : Tab} (Z : Wd G.K G.T mg ad) (F : ∀ i, FG P w G.K mg base (k + 2) (ad i) (spT G (t i)))
    {f : Addr} {cdv : Value} {A : Around} {outer : List PySem.Env} {s : Shared} {H : Hp} {E : XK} {W : WX} (ok : Okk G (X7 P w G.K mg base f cdv A outer s H E) (k + 2)) (tk : Takes (X7 P w G.K mg base f cdv A outer s H E) W)
    (hp : PassesOwn (model P w) (X7 P w G.K mg base f cdv A outer s H E).A (X7 P w G.K mg base f cdv A outer s H E).env (X7 P w G.K mg base f cdv A outer s H E).xe) :
    PSsv G (X7 P w G.K mg base f cdv A outer s H E) W (d7 t) (defBody st7) :=
  sv_one (sv_ret (ev_bin op_addV (ds_add ok.hK) (ev_callB cr_lenV (cs_len ok.hK) (by rfl) Z.b_len boot_bi_len (lv_cons (ev_var (i := 0)) (lv_nil))) (ev_int)))
theorem sc8 : FnScope nm8 ["table", "m"] (defScope st8) := ⟨rfl, rfl, rfl, by decide +kernel, rfl, by decide +kernel, by decide +kernel⟩
abbrev X8 (P : Program) (w : World) (K : PySem.W.Frag) (mg : Str → Option Value) (base : Heap) (f : Addr) (cdv : Value) (A : Around) (outer : List PySem.Env) (s : Shared) (H : Hp) (E : XK) : Cx := cxOf (L2.CX P w) P w K mg base nm8 "entry" (defScope st8) f cdv A outer s H E
set_option maxHeartbeats 4000000 in
theorem dv8 {G : Gd} {P : Program} {w : World} {mg : Str → Option Value} {base : Heap} {k : Nat} {ad : Nat → Addr} {t : Tab} (Z : Wd G.K G.T mg ad) (F : ∀ i, FG P w G.K mg base (k + 2) (ad i) (spT G (t i)))
    {f : Addr} {cdv : Value} {A : Around} {outer : List PySem.Env} {s : Shared} {H : Hp} {E : XK} {W : WX} (ok : Okk G (X8 P w G.K mg base f cdv A outer s H E) (k + 2)) (tk : Takes (X8 P w G.K mg base f cdv A outer s H E) W)
    (hp : PassesOwn (model P w) (X8 P w G.K mg base f cdv A outer s H E).A (X8 P w G.K mg base f cdv A outer s H E).env (X8 P w G.K mg base f cdv A outer s H E).xe) :
    PSsv G (X8 P w G.K mg base f cdv A outer s H E) W (d8 t) (defBody st8) :=
  sv_one (sv_ret (ev_if (tv_cmp (op_eqM ok.u1) (ds_eq ok.hK false) (ev_var (i := 1)) (ev_int) (hm := by with_unfolding_all rfl)) (ev_tup (lv_nil)) (ev_ix ok.hK ok.u2 (ev_var (i := 0)) (ev_bin op_sub ds_sub (ev_var (i := 1)) (ev_int)))))
theorem sc9 : FnScope nm9 ["form", "lumps"] (defScope st9) := ⟨rfl, rfl, rfl, by decide +kernel, rfl, by decide +kernel, by decide +kernel⟩
abbrev X9 (P : Program) (w : World) (K : PySem.W.Frag) (mg : Str → Option Value) (base : Heap) (f : Addr) (cdv : Value) (A : Around) (outer : List PySem.Env) (s : Shared) (H : Hp) (E : XK) : Cx := cxOf (L2.CX P w) P w K mg base nm9 "filled" (defScope st9) f cdv A outer s H E
set_option maxHeartbeats 4000000 in
theorem dv9 {G : Gd} {P : Program} {w : World} {mg : Str → Option Value} {base : Heap} {k : Nat} {ad : Nat → Addr} {t : Tab} (Z : Wd G.K G.T mg ad) (F : ∀ i, FG P w G.K mg base (k + 2) (ad i) (spT G (t i)))
    {f : Addr} {cdv : Value} {A : Around} {outer : List PySem.Env} {s : Shared} {H : Hp} {E : XK} {W : WX} (ok : Okk G (X9 P w G.K mg base f cdv A outer s H E) (k + 2)) (tk : Takes (X9 P w G.K mg base f cdv A outer s H E) W)
    (hp : PassesOwn (model P w) (X9 P w G.K mg base f cdv A outer s H E).A (X9 P w G.K mg base f cdv A outer s H E).env (X9 P w G.K mg base f cdv A outer s H E).xe) :
    PSsv G (X9 P w G.K mg base f cdv A outer s H E) W (d9 t) (defBody st9) :=
  sv_cons (sv_if (tv_cmp (op_eqM ok.u1) (ds_eq ok.hK false) (ev_var (i := 0)) (ev_tup (lv_nil)) (hm := by with_unfolding_all rfl)) (sv_one (sv_ret (ev_ml ok.hK PySem.F.slot_list_pop PySem.F.type_list_pop mt_popA ms_pop (ev_var (i := 1)) (lv_cons (ev_int) (lv_nil))))) (sv_nil))
    (sv_cons (sv_set (i := 2) ok.nd (ev_call (i := 9) (F 9) ok.room ok.gu tk Z.m9 Z.k9 (lv_cons (ev_ix ok.hK ok.u2 (ev_var (i := 0)) (ev_int)) (lv_cons (ev_var (i := 1)) (lv_nil)))))
    (sv_one (sv_ret (ev_tup (lv_cons (ev_var (i := 2)) (lv_cons (ev_call (i := 9) (F 9) ok.room ok.gu tk Z.m9 Z.k9 (lv_cons (ev_ix ok.hK ok.u2 (ev_var (i := 0)) (ev_int)) (lv_cons (ev_var (i := 1)) (lv_nil)))) (lv_nil)))))))
theorem sc10 : FnScope nm10 ["table", "row"] (defScope st10) := ⟨rfl, rfl, rfl, by decide +kernel, rfl, by decide +kernel, by decide +kernel⟩
abbrev X10 (P : Program) (w : World) (K : PySem.W.Frag) (mg : Str → Option Value) (base : Heap) (f : Addr) (cdv : Value) (A : Around) (outer : List PySem.Env) (s : Shared) (H : Hp) (E : XK) : Cx := cxOf (L2.CX P w) P w K mg base nm10 "pressed" (defScope st10) f cdv A outer s H E
set_option maxHeartbeats 4000000 in
theorem dv10 {G : Gd} {P : Program} {w : World} {mg : Str → Option Value} {base : Heap} {k : Nat} {ad : Nat → Addr} {t : Tab} (Z : Wd G.K G.T mg ad) (F : ∀ i, FG P w G.K mg base (k + 2) (ad i) (spT G (t i)))
    {f : Addr} {cdv : Value} {A : Around} {outer : List PySem.Env} {s : Shared} {H : Hp} {E : XK} {W : WX} (ok : Okk G (X10 P w G.K mg base f cdv A outer s H E) (k + 2)) (tk : Takes (X10 P w G.K mg base f cdv A outer s H E) W)
    (hp : PassesOwn (model P w) (X10 P w G.K mg base f cdv A outer s H E).A (X10 P w G.K mg base f cdv A outer s H E).env (X10 P w G.K mg base f cdv A outer s H E).xe) :
    PSsv G (X10 P w G.K mg base f cdv A outer s H E) W (d10 t) (defBody st10) :=
  sv_cons (sv_par (i := 2) (j := 3) ok.calm ok.nd (lv_cons (ev_call (i := 7) (F 7) ok.room ok.gu tk Z.m7 Z.k7 (lv_cons (ev_var (i := 0)) (lv_nil))) (lv_cons (ev_lst (lv_nil)) (lv_nil))))
    (sv_cons (sv_for hp ok.calm (iv_range3 (by rfl) Z.b_range (lv_cons (ev_int) (lv_cons (ev_callB cr_lenV (cs_len ok.hK) (by rfl) Z.b_len boot_bi_len (lv_cons (ev_var (i := 1)) (lv_nil))) (lv_cons (ev_var (i := 2)) (lv_nil))))) (gv_name (i := 4) ok.nd) (sv_cons (sv_set (i := 5) ok.nd (ev_cut ok.hK (ev_var (i := 1)) (ov_some (ev_var (i := 4))) (ov_some (ev_bin op_addV (ds_add ok.hK) (ev_var (i := 4)) (ev_var (i := 2))))))
    (sv_one (sv_expr (ev_ml ok.hK PySem.F.slot_list_append PySem.F.type_list_append mt_append ms_append (ev_var (i := 3)) (lv_cons (ev_call (i := 9) (F 9) ok.room ok.gu tk Z.m9 Z.k9 (lv_cons (ev_call (i := 8) (F 8) ok.room ok.gu tk Z.m8 Z.k8 (lv_cons (ev_var (i := 0)) (lv_cons (ev_callB cr_lenV (cs_len ok.hK) (by rfl) Z.b_len boot_bi_len (lv_cons (ev_var (i := 5)) (lv_nil))) (lv_nil)))) (lv_cons (ev_callTy cr_listV (cs_list ok.hK) (by rfl) Z.b_list boot_ty_list (lv_cons (ev_var (i := 5)) (lv_nil))) (lv_nil)))) (lv_nil)))))))
    (sv_one (sv_ret (ev_var (i := 3)))))
theorem sc11 : FnScope nm11 ["plan", "n"] (defScope st11) := ⟨rfl, rfl, rfl, by decide +kernel, rfl, by decide +kernel, by decide +kernel⟩
abbrev X11 (P : Program) (w : World) (K : PySem.W.Frag) (mg : Str → Option Value) (base : Heap) (f : Addr) (cdv : Value) (A : Around) (outer : List PySem.Env) (s : Shared) (H : Hp) (E : XK) : Cx := cxOf (L2.CX P w) P w K mg base nm11 "shape" (defScope st11) f cdv A outer s H E
set_option maxHeartbeats 4000000 in
theorem dv11 {G : Gd} {P : Program} {w : World} {mg : Str → Option Value} {base : Heap} {k : Nat} {ad : Nat → Addr} {t : Tab} (Z : Wd G.K G.T mg ad) (F : ∀ i, FG P w G.K mg base (k + 2) (ad i) (spT G (t i)))
    {f : Addr} {cdv : Value} {A : Around} {outer : List PySem.Env} {s : Shared} {H : Hp} {E : XK} {W : WX} (ok : Okk G (X11 P w G.K mg base f cdv A outer s H E) (k + 2)) (tk : Takes (X11 P w G.K mg base f cdv A outer s H E) W)
    (hp : PassesOwn (model P w) (X11 P w G.K mg base f cdv A outer s H E).A (X11 P w G.K mg base f cdv A outer s H E).env (X11 P w G.K mg base f cdv A outer s H E).xe) :
    PSsv G (X11 P w G.K mg base f cdv A outer s H E) W (d11 t) (defBody st11) :=
  sv_cons (sv_par (i := 2) (j := 3) ok.calm ok.nd (lv_cons (ev_bin op_mulA (ds_mulA ok.hK) (ev_lst (lv_cons (ev_tup (lv_nil)) (lv_nil))) (ev_var (i := 1))) (lv_cons (ev_int) (lv_nil))))
    (sv_cons (sv_while (n := FUEL) hp (tv_bool (wv_and (tv_cmp op_gt (ds_cmp _) (ev_callB cr_lenV (cs_len ok.hK) (by rfl) Z.b_len boot_bi_len (lv_cons (ev_var (i := 2)) (lv_nil))) (ev_int) (hm := by with_unfolding_all rfl)) (wv_and1 (tv_cmp op_isnotV (ds_is true) (ev_meth (i := 43) (c := 0) (F 43) ok.room ok.gu tk Z.t0 Z.cl0 Z.me43 (ev_var (i := 0)) (lv_cons (ev_var (i := 3)) (lv_nil))) (ev_non) (hm := by with_unfolding_all rfl))))) (sv_cons (sv_set (i := 2) ok.nd (ev_call (i := 10) (F 10) ok.room ok.gu tk Z.m10 Z.k10 (lv_cons (ev_meth (i := 43) (c := 0) (F 43) ok.room ok.gu tk Z.t0 Z.cl0 Z.me43 (ev_var (i := 0)) (lv_cons (ev_var (i := 3)) (lv_nil))) (lv_cons (ev_var (i := 2)) (lv_nil)))))
    (sv_one (sv_aug (i := 3) ok.nd iop_add ds_addI (ev_int)))))
    (sv_one (sv_ret (ev_if (tv_cmp (op_eqM ok.u1) (ds_eq ok.hK false) (ev_callB cr_lenV (cs_len ok.hK) (by rfl) Z.b_len boot_bi_len (lv_cons (ev_var (i := 2)) (lv_nil))) (ev_int) (hm := by with_unfolding_all rfl)) (ev_ix ok.hK ok.u2 (ev_var (i := 2)) (ev_int)) (ev_call (i := 9) (F 9) ok.room ok.gu tk Z.m9 Z.k9 (lv_cons (ev_call (i := 4) (F 4) ok.room ok.gu tk Z.m4 Z.k4 (lv_cons (ev_callB cr_lenV (cs_len ok.hK) (by rfl) Z.b_len boot_bi_len (lv_cons (ev_var (i := 2)) (lv_nil))) (lv_cons (ev_meth0 (i := 42) (c := 0) (F 42) ok.room ok.gu tk Z.t0 Z.cl0 Z.me42 (ev_var (i := 0))) (lv_nil)))) (lv_cons (ev_var (i := 2)) (lv_nil))))))))
theorem sc12 : FnScope nm12 ["plan", "n"] (defScope st12) := ⟨rfl, rfl, rfl, by decide +kernel, rfl, by decide +kernel, by decide +kernel⟩
abbrev X12 (P : Program) (w : World) (K : PySem.W.Frag) (mg : Str → Option Value) (base : Heap) (f : Addr) (cdv : Value) (A : Around) (outer : List PySem.Env) (s : Shared) (H : Hp) (E : XK) : Cx := cxOf (L2.CX P w) P w K mg base nm12 "counts" (defScope st12) f cdv A outer s H E
set_option maxHeartbeats 4000000 in
theorem dv12 {G : Gd} {P : Program} {w : World} {mg : Str → Option Value} {base : Heap} {k : Nat} {ad : Nat → Addr} {t : Tab} (Z : Wd G.K G.T mg ad) (F : ∀ i, FG P w G.K mg base (k + 2) (ad i) (spT G (t i)))
    {f : Addr} {cdv : Value} {A : Around} {outer : List PySem.Env} {s : Shared} {H : Hp} {E : XK} {W : WX} (ok : Okk G (X12 P w G.K mg base f cdv A outer s H E) (k + 2)) (tk : Takes (X12 P w G.K mg base f cdv A outer s H E) W)
    (hp : PassesOwn (model P w) (X12 P w G.K mg base f cdv A outer s H E).A (X12 P w G.K mg base f cdv A outer s H E).env (X12 P w G.K mg base f cdv A outer s H E).xe) :
    PSsv G (X12 P w G.K mg base f cdv A outer s H E) W (d12 t) (defBody st12) :=
  sv_cons (sv_set (i := 2) ok.nd (ev_lst (lv_cons (ev_var (i := 1)) (lv_nil))))
    (sv_cons (sv_while (n := FUEL) hp (tv_bool (wv_and (tv_cmp op_gt (ds_cmp _) (ev_ix ok.hK ok.u2 (ev_var (i := 2)) (ev_un un_neg ds_neg (ev_int))) (ev_int) (hm := by with_unfolding_all rfl)) (wv_and1 (tv_cmp op_isnotV (ds_is true) (ev_meth (i := 43) (c := 0) (F 43) ok.room ok.gu tk Z.t0 Z.cl0 Z.me43 (ev_var (i := 0)) (lv_cons (ev_bin op_sub ds_sub (ev_callB cr_lenV (cs_len ok.hK) (by rfl) Z.b_len boot_bi_len (lv_cons (ev_var (i := 2)) (lv_nil))) (ev_int)) (lv_nil))) (ev_non) (hm := by with_unfolding_all rfl))))) (sv_cons (sv_set (i := 3) ok.nd (ev_call (i := 7) (F 7) ok.room ok.gu tk Z.m7 Z.k7 (lv_cons (ev_meth (i := 43) (c := 0) (F 43) ok.room ok.gu tk Z.t0 Z.cl0 Z.me43 (ev_var (i := 0)) (lv_cons (ev_bin op_sub ds_sub (ev_callB cr_lenV (cs_len ok.hK) (by rfl) Z.b_len boot_bi_len (lv_cons (ev_var (i := 2)) (lv_nil))) (ev_int)) (lv_nil))) (lv_nil))))
    (sv_one (sv_expr (ev_ml ok.hK PySem.F.slot_list_append PySem.F.type_list_append mt_append ms_append (ev_var (i := 2)) (lv_cons (ev_bin op_fdivW ds_fdiv (ev_bin op_sub ds_sub (ev_bin op_addV (ds_add ok.hK) (ev_ix ok.hK ok.u2 (ev_var (i := 2)) (ev_un un_neg ds_neg (ev_int))) (ev_var (i := 3))) (ev_int)) (ev_var (i := 3))) (lv_nil)))))))
    (sv_one (sv_ret (ev_var (i := 2)))))
theorem sc13 : FnScope nm13 ["plan", "n"] (defScope st13) := ⟨rfl, rfl, rfl, by decide +kernel, rfl, by decide +kernel, by decide +kernel⟩
abbrev X13 (P : Program) (w : World) (K : PySem.W.Frag) (mg : Str → Option Value) (base : Heap) (f : Addr) (cdv : Value) (A : Around) (outer : List PySem.Env) (s : Shared) (H : Hp) (E : XK) : Cx := cxOf (L2.CX P w) P w K mg base nm13 "widths" (defScope st13) f cdv A outer s H E
set_option maxHeartbeats 4000000 in
theorem dv13 {G : Gd} {P : Program} {w : World} {mg : Str → Option Value} {base : Heap} {k : Nat} {ad : Nat → Addr} {t : Tab} (Z : Wd G.K G.T mg ad) (F : ∀ i, FG P w G.K mg base (k + 2) (ad i) (spT G (t i)))
    {f : Addr} {cdv : Value} {A : Around} {outer : List PySem.Env} {s : Shared} {H : Hp} {E : XK} {W : WX} (ok : Okk G (X13 P w G.K mg base f cdv A outer s H E) (k + 2)) (tk : Takes (X13 P w G.K mg base f cdv A outer s H E) W)
    (hp : PassesOwn (model P w) (X13 P w G.K mg base f cdv A outer s H E).A (X13 P w G.K mg base f cdv A outer s H E).env (X13 P w G.K mg base f cdv A outer s H E).xe) :
    PSsv G (X13 P w G.K mg base f cdv A outer s H E) W (d13 t) (defBody st13) :=
  sv_cons (sv_set (i := 2) ok.nd (ev_lst (lv_cons (ev_int) (lv_nil))))
    (sv_cons (sv_for hp ok.calm (iv_range1 (by rfl) Z.b_range (lv_cons (ev_bin op_sub ds_sub (ev_callB cr_lenV (cs_len ok.hK) (by rfl) Z.b_len boot_bi_len (lv_cons (ev_call (i := 12) (F 12) ok.room ok.gu tk Z.m12 Z.k12 (lv_cons (ev_var (i := 0)) (lv_cons (ev_var (i := 1)) (lv_nil)))) (lv_nil))) (ev_int)) (lv_nil))) (gv_name (i := 3) ok.nd) (sv_one (sv_expr (ev_ml ok.hK PySem.F.slot_list_append PySem.F.type_list_append mt_append ms_append (ev_var (i := 2)) (lv_cons (ev_bin op_mulA (ds_mulA ok.hK) (ev_ix ok.hK ok.u2 (ev_var (i := 2)) (ev_un un_neg ds_neg (ev_int))) (ev_call (i := 7) (F 7) ok.room ok.gu tk Z.m7 Z.k7 (lv_cons (ev_meth (i := 43) (c := 0) (F 43) ok.room ok.gu tk Z.t0 Z.cl0 Z.me43 (ev_var (i := 0)) (lv_cons (ev_var (i := 3)) (lv_nil))) (lv_nil)))) (lv_nil))))))
    (sv_one (sv_ret (ev_var (i := 2)))))
theorem sc14 : FnScope nm14 ["plan", "n", "k"] (defScope st14) := ⟨rfl, rfl, rfl, by decide +kernel, rfl, by decide +kernel, by decide +kernel⟩
abbrev X14 (P : Program) (w : World) (K : PySem.W.Frag) (mg : Str → Option Value) (base : Heap) (f : Addr) (cdv : Value) (A : Around) (outer : List PySem.Env) (s : Shared) (H : Hp) (E : XK) : Cx := cxOf (L2.CX P w) P w K mg base nm14 "row_behind" (defScope st14) f cdv A outer s H E
set_option maxHeartbeats 4000000 in
theorem dv14 {G : Gd} {P : Program} {w : World} {mg : Str → Option Value} {base : Heap} {k : Nat} {ad : Nat → Addr} {t : Tab} (Z : Wd G.K G.T mg ad) (F : ∀ i, FG P w G.K mg base (k + 2) (ad i) (spT G (t i)))
    {f : Addr} {cdv : Value} {A : Around} {outer : List PySem.Env} {s : Shared} {H : Hp} {E : XK} {W : WX} (ok : Okk G (X14 P w G.K mg base f cdv A outer s H E) (k + 2)) (tk : Takes (X14 P w G.K mg base f cdv A outer s H E) W)
    (hp : PassesOwn (model P w) (X14 P w G.K mg base f cdv A outer s H E).A (X14 P w G.K mg base f cdv A outer s H E).env (X14 P w G.K mg base f cdv A outer s H E).xe) :
    PSsv G (X14 P w G.K mg base f cdv A outer s H E) W (d14 t) (defBody st14) :=
  sv_cons (sv_asg (ev_tup (lv_cons (ev_ix ok.hK ok.u2 (ev_cut ok.hK (ev_call (i := 12) (F 12) ok.room ok.gu tk Z.m12 Z.k12 (lv_cons (ev_var (i := 0)) (lv_cons (ev_var (i := 1)) (lv_nil)))) ov_none (ov_some (ev_bin op_addV (ds_add ok.hK) (ev_var (i := 2)) (ev_int)))) (ev_un un_neg ds_neg (ev_int))) (lv_cons (ev_ix ok.hK ok.u2 (ev_cut ok.hK (ev_call (i := 13) (F 13) ok.room ok.gu tk Z.m13 Z.k13 (lv_cons (ev_var (i := 0)) (lv_cons (ev_var (i := 1)) (lv_nil)))) ov_none (ov_some (ev_bin op_addV (ds_add ok.hK) (ev_var (i := 2)) (ev_int)))) (ev_un un_neg ds_neg (ev_int))) (lv_nil)))) (gv_tup ok.hK ok.calm (gsv_cons (gv_name (i := 3) ok.nd) (gsv_cons (gv_name (i := 4) ok.nd) (gsv_nil))) rfl))
    (sv_one (sv_ret (ev_lc (own := [("number", 5)]) ok.calm ok.nd (iv_range1 (by rfl) Z.b_range (lv_cons (ev_var (i := 3)) (lv_nil))) (blkOk_by (N := nm14) (sc := defScope st14) (by decide +kernel)) (fun _ _ _ _ _ => gv_name (i := 5) ok.nd) (fun _ _ _ _ _ => tsv_nil) (fun _ _ _ _ _ => ev_tup (lv_cons (ev_bin op_mulA (ds_mulA ok.hK) (ev_var (i := 5)) (ev_var (i := 4))) (lv_cons (ev_callB (cr_minV ok.calm) (cs_min ok.hK) (by rfl) Z.b_min boot_bi_min (lv_cons (ev_bin op_mulA (ds_mulA ok.hK) (ev_bin op_addV (ds_add ok.hK) (ev_var (i := 5)) (ev_int)) (ev_var (i := 4))) (lv_cons (ev_var (i := 1)) (lv_nil)))) (lv_nil)))) (by simp [Tgt.slots, slotsL]))))
theorem sc15 : FnScope nm15 ["form"] (defScope st15) := ⟨rfl, rfl, rfl, by decide +kernel, rfl, by decide +kernel, by decide +kernel⟩
abbrev X15 (P : Program) (w : World) (K : PySem.W.Frag) (mg : Str → Option Value) (base : Heap) (f : Addr) (cdv : Value) (A : Around) (outer : List PySem.Env) (s : Shared) (H : Hp) (E : XK) : Cx := cxOf (L2.CX P w) P w K mg base nm15 "shape_lumps" (defScope st15) f cdv A outer s H E
set_option maxHeartbeats 4000000 in
theorem dv15 {G : Gd} {P : Program} {w : World} {mg : Str → Option Value} {base : Heap} {k : Nat} {ad : Nat → Addr} {t : Tab} (Z : Wd G.K G.T mg ad) (F : ∀ i, FG P w G.K mg base (k + 2) (ad i) (spT G (t i)))
    {f : Addr} {cdv : Value} {A : Around} {outer : List PySem.Env} {s : Shared} {H : Hp} {E : XK} {W : WX} (ok : Okk G (X15 P w G.K mg base f cdv A outer s H E) (k + 2)) (tk : Takes (X15 P w G.K mg base f cdv A outer s H E) W)
    (hp : PassesOwn (model P w) (X15 P w G.K mg base f cdv A outer s H E).A (X15 P w G.K mg base f cdv A outer s H E).env (X15 P w G.K mg base f cdv A outer s H E).xe) :
    PSsv G (X15 P w G.K mg base f cdv A outer s H E) W (d15 t) (defBody st15) :=
  sv_cons (sv_par (i := 1) (j := 2) ok.calm ok.nd (lv_cons (ev_lst (lv_cons (ev_tup (lv_cons (ev_int) (lv_cons (ev_var (i := 0)) (lv_nil)))) (lv_nil))) (lv_cons (ev_lst (lv_nil)) (lv_nil))))
    (sv_cons (sv_while (n := FUEL) hp (tv_cmp (op_neM ok.u1) (ds_eq ok.hK true) (ev_var (i := 1)) (ev_lst (lv_nil)) (hm := by with_unfolding_all rfl)) (sv_cons (sv_asg (ev_ml0 ok.hK PySem.F.slot_list_pop PySem.F.type_list_pop mt_popA ms_pop (ev_var (i := 1))) (gv_tup ok.hK ok.calm (gsv_cons (gv_name (i := 3) ok.nd) (gsv_cons (gv_name (i := 4) ok.nd) (gsv_nil))) rfl))
    (sv_cons (sv_expr (ev_ml ok.hK PySem.F.slot_list_append PySem.F.type_list_append mt_append ms_append (ev_var (i := 2)) (lv_cons (ev_tup (lv_cons (ev_var (i := 3)) (lv_cons (ev_bin op_addV (ds_add ok.hK) (ev_var (i := 3)) (ev_call (i := 3) (F 3) ok.room ok.gu tk Z.m3 Z.k3 (lv_cons (ev_var (i := 4)) (lv_nil)))) (lv_nil)))) (lv_nil))))
    (sv_one (sv_if (tv_cmp (op_neM ok.u1) (ds_eq ok.hK true) (ev_var (i := 4)) (ev_tup (lv_nil)) (hm := by with_unfolding_all rfl)) (sv_cons (sv_expr (ev_ml ok.hK PySem.F.slot_list_append PySem.F.type_list_append mt_append ms_append (ev_var (i := 1)) (lv_cons (ev_tup (lv_cons (ev_bin op_addV (ds_add ok.hK) (ev_var (i := 3)) (ev_call (i := 3) (F 3) ok.room ok.gu tk Z.m3 Z.k3 (lv_cons (ev_ix ok.hK ok.u2 (ev_var (i := 4)) (ev_int)) (lv_nil)))) (lv_cons (ev_ix ok.hK ok.u2 (ev_var (i := 4)) (ev_int)) (lv_nil)))) (lv_nil))))
    (sv_one (sv_expr (ev_ml ok.hK PySem.F.slot_list_append PySem.F.type_list_append mt_append ms_append (ev_var (i := 1)) (lv_cons (ev_tup (lv_cons (ev_var (i := 3)) (lv_cons (ev_ix ok.hK ok.u2 (ev_var (i := 4)) (ev_int)) (lv_nil)))) (lv_nil)))))) (sv_nil))))))
    (sv_one (sv_ret (ev_var (i := 2)))))
theorem sc16 : FnScope nm16 ["many", "end"] (defScope st16) := ⟨rfl, rfl, rfl, by decide +kernel, rfl, by decide +kernel, by decide +kernel⟩
abbrev X16 (P : Program) (w : World) (K : PySem.W.Frag) (mg : Str → Option Value) (base : Heap) (f : Addr) (cdv : Value) (A : Around) (outer : List PySem.Env) (s : Shared) (H : Hp) (E : XK) : Cx := cxOf (L2.CX P w) P w K mg base nm16 "comb_lumps" (defScope st16) f cdv A outer s H E
set_option maxHeartbeats 4000000 in
theorem dv16 {G : Gd} {P : Program} {w : World} {mg : Str → Option Value} {base : Heap} {k : Nat} {ad : Nat → Addr} {t : Tab} (Z : Wd G.K G.T mg ad) (F : ∀ i, FG P w G.K mg base (k + 2) (ad i) (spT G (t i)))
    {f : Addr} {cdv : Value} {A : Around} {outer : List PySem.Env} {s : Shared} {H : Hp} {E : XK} {W : WX} (ok : Okk G (X16 P w G.K mg base f cdv A outer s H E) (k + 2)) (tk : Takes (X16 P w G.K mg base f cdv A outer s H E) W)
    (hp : PassesOwn (model P w) (X16 P w G.K mg base f cdv A outer s H E).A (X16 P w G.K mg base f cdv A outer s H E).env (X16 P w G.K mg base f cdv A outer s H E).xe) :
    PSsv G (X16 P w G.K mg base f cdv A outer s H E) W (d16 t) (defBody st16) :=
  sv_cons (sv_if (tv_cmp (op_eqM ok.u1) (ds_eq ok.hK false) (ev_var (i := 1)) (ev_str) (hm := by with_unfolding_all rfl)) (sv_one (sv_ret (ev_lc (own := [("number", 2)]) ok.calm ok.nd (iv_range2 (by rfl) Z.b_range (lv_cons (ev_int) (lv_cons (ev_bin op_addV (ds_add ok.hK) (ev_var (i := 0)) (ev_int)) (lv_nil)))) (blkOk_by (N := nm16) (sc := defScope st16) (by decide +kernel)) (fun _ _ _ _ _ => gv_name (i := 2) ok.nd) (fun _ _ _ _ _ => tsv_nil) (fun _ _ _ _ _ => ev_tup (lv_cons (ev_int) (lv_cons (ev_var (i := 2)) (lv_nil)))) (by simp [Tgt.slots, slotsL])))) (sv_nil))
    (sv_one (sv_ret (ev_lc (own := [("number", 2)]) ok.calm ok.nd (iv_range1 (by rfl) Z.b_range (lv_cons (ev_bin op_sub ds_sub (ev_var (i := 0)) (ev_int)) (lv_nil))) (blkOk_by (N := nm16) (sc := defScope st16) (by decide +kernel)) (fun _ _ _ _ _ => gv_name (i := 2) ok.nd) (fun _ _ _ _ _ => tsv_nil) (fun _ _ _ _ _ => ev_tup (lv_cons (ev_var (i := 2)) (lv_cons (ev_var (i := 0)) (lv_nil)))) (by simp [Tgt.slots, slotsL]))))
theorem sc17 : FnScope nm17 ["table", "row"] (defScope st17) := ⟨rfl, rfl, rfl, by decide +kernel, rfl, by decide +kernel, by decide +kernel⟩
abbrev X17 (P : Program) (w : World) (K : PySem.W.Frag) (mg : Str → Option Value) (base : Heap) (f : Addr) (cdv : Value) (A : Around) (outer : List PySem.Env) (s : Shared) (H : Hp) (E : XK) : Cx := cxOf (L2.CX P w) P w K mg base nm17 "stretch_lumps" (defScope st17) f cdv A outer s H E
set_option maxHeartbeats 4000000 in
theorem dv17 {G : Gd} {P : Program} {w : World} {mg : Str → Option Value} {base : Heap} {k : Nat} {ad : Nat → Addr} {t : Tab} (Z : Wd G.K G.T mg ad) (F : ∀ i, FG P w G.K mg base (k + 2) (ad i) (spT G (t i)))
    {f : Addr} {cdv : Value} {A : Around} {outer : List PySem.Env} {s : Shared} {H : Hp} {E : XK} {W : WX} (ok : Okk G (X17 P w G.K mg base f cdv A outer s H E) (k + 2)) (tk : Takes (X17 P w G.K mg base f cdv A outer s H E) W)
    (hp : PassesOwn (model P w) (X17 P w G.K mg base f cdv A outer s H E).A (X17 P w G.K mg base f cdv A outer s H E).env (X17 P w G.K mg base f cdv A outer s H E).xe) :
    PSsv G (X17 P w G.K mg base f cdv A outer s H E) W (d17 t) (defBody st17) :=
  sv_cons (sv_par (i := 2) (j := 3) ok.calm ok.nd (lv_cons (ev_call (i := 7) (F 7) ok.room ok.gu tk Z.m7 Z.k7 (lv_cons (ev_var (i := 0)) (lv_nil))) (lv_cons (ev_lst (lv_nil)) (lv_nil))))
    (sv_cons (sv_for hp ok.calm (iv_range3 (by rfl) Z.b_range (lv_cons (ev_int) (lv_cons (ev_callB cr_lenV (cs_len ok.hK) (by rfl) Z.b_len boot_bi_len (lv_cons (ev_var (i := 1)) (lv_nil))) (lv_cons (ev_var (i := 2)) (lv_nil))))) (gv_name (i := 4) ok.nd) (sv_cons (sv_set (i := 5) ok.nd (ev_call (i := 15) (F 15) ok.room ok.gu tk Z.m15 Z.k15 (lv_cons (ev_call (i := 8) (F 8) ok.room ok.gu tk Z.m8 Z.k8 (lv_cons (ev_var (i := 0)) (lv_cons (ev_callB (cr_minV ok.calm) (cs_min ok.hK) (by rfl) Z.b_min boot_bi_min (lv_cons (ev_var (i := 2)) (lv_cons (ev_bin op_sub ds_sub (ev_callB cr_lenV (cs_len ok.hK) (by rfl) Z.b_len boot_bi_len (lv_cons (ev_var (i := 1)) (lv_nil))) (ev_var (i := 4))) (lv_nil)))) (lv_nil)))) (lv_nil))))
    (sv_one (sv_expr (ev_ml ok.hK PySem.F.slot_list_extend PySem.F.type_list_extend mt_extA (ms_extend ok.hK) (ev_var (i := 3)) (lv_cons (ev_lc (own := [("one", 6), ("other", 7)]) ok.calm ok.nd (iv_val ok.hK (ev_var (i := 5))) (blkOk_by (N := nm17) (sc := defScope st17) (by decide +kernel)) (fun _ _ _ _ _ => gv_tup ok.hK ok.calm (gsv_cons (gv_name (i := 6) ok.nd) (gsv_cons (gv_name (i := 7) ok.nd) (gsv_nil))) rfl) (fun _ _ _ _ _ => tsv_one (tv_cmp op_gt (ds_cmp _) (ev_bin op_sub ds_sub (ev_var (i := 7)) (ev_var (i := 6))) (ev_int) (hm := by with_unfolding_all rfl))) (fun _ _ _ _ _ => ev_tup (lv_cons (ev_bin op_addV (ds_add ok.hK) (ev_var (i := 4)) (ev_var (i := 6))) (lv_cons (ev_bin op_addV (ds_add ok.hK) (ev_var (i := 4)) (ev_var (i := 7))) (lv_nil)))) (by simp [Tgt.slots, slotsL])) (lv_nil)))))))
    (sv_one (sv_ret (ev_var (i := 3)))))
theorem sc18 : FnScope nm18 ["plan", "n"] (defScope st18) := ⟨rfl, rfl, rfl, by decide +kernel, rfl, by decide +kernel, by decide +kernel⟩
abbrev X18 (P : Program) (w : World) (K : PySem.W.Frag) (mg : Str → Option Value) (base : Heap) (f : Addr) (cdv : Value) (A : Around) (outer : List PySem.Env) (s : Shared) (H : Hp) (E : XK) : Cx := cxOf (L2.CX P w) P w K mg base nm18 "all_lumps" (defScope st18) f cdv A outer s H E
set_option maxHeartbeats 4000000 in
theorem dv18 {G : Gd} {P : Program} {w : World} {mg : Str → Option Value} {base : Heap} {k : Nat} {ad : Nat → Addr} {t : Tab} (Z : Wd G.K G.T mg ad) (F : ∀ i, FG P w G.K mg base (k + 2) (ad i) (spT G (t i)))
    {f : Addr} {cdv : Value} {A : Around} {outer : List PySem.Env} {s : Shared} {H : Hp} {E : XK} {W : WX} (ok : Okk G (X18 P w G.K mg base f cdv A outer s H E) (k + 2)) (tk : Takes (X18 P w G.K mg base f cdv A outer s H E) W)
    (hp : PassesOwn (model P w) (X18 P w G.K mg base f cdv A outer s H E).A (X18 P w G.K mg base f cdv A outer s H E).env (X18 P w G.K mg base f cdv A outer s H E).xe) {cc PP : Addr} (lam : LamOk G (X18 P w G.K mg base f cdv A outer s H E) cc PP) :
    PSsv G (X18 P w G.K mg base f cdv A outer s H E) W (d18 t) (defBody st18) :=
  sv_cons (sv_asg (ev_tup (lv_cons (ev_call (i := 14) (F 14) ok.room ok.gu tk Z.m14 Z.k14 (lv_cons (ev_var (i := 0)) (lv_cons (ev_var (i := 1)) (lv_cons (ev_int) (lv_nil))))) (lv_cons (ev_int) (lv_cons (ev_lc (own := [("place", 5)]) ok.calm ok.nd (iv_range1 (by rfl) Z.b_range (lv_cons (ev_var (i := 1)) (lv_nil))) (blkOk_by (N := nm18) (sc := defScope st18) (by decide +kernel)) (fun _ _ _ _ _ => gv_name (i := 5) ok.nd) (fun _ _ _ _ _ => tsv_nil) (fun _ _ _ _ _ => ev_tup (lv_cons (ev_var (i := 5)) (lv_cons (ev_bin op_addV (ds_add ok.hK) (ev_var (i := 5)) (ev_int)) (lv_nil)))) (by simp [Tgt.slots, slotsL])) (lv_nil))))) (gv_tup ok.hK ok.calm (gsv_cons (gv_name (i := 2) ok.nd) (gsv_cons (gv_name (i := 3) ok.nd) (gsv_cons (gv_name (i := 4) ok.nd) (gsv_nil)))) rfl))
    (sv_cons (sv_while (n := FUEL) hp (tv_bool (wv_and (tv_cmp op_gt (ds_cmp _) (ev_callB cr_lenV (cs_len ok.hK) (by rfl) Z.b_len boot_bi_len (lv_cons (ev_var (i := 2)) (lv_nil))) (ev_int) (hm := by with_unfolding_all rfl)) (wv_and1 (tv_cmp op_isnotV (ds_is true) (ev_meth (i := 43) (c := 0) (F 43) ok.room ok.gu tk Z.t0 Z.cl0 Z.me43 (ev_var (i := 0)) (lv_cons (ev_var (i := 3)) (lv_nil))) (ev_non) (hm := by with_unfolding_all rfl))))) (sv_cons (sv_expr (ev_ml ok.hK PySem.F.slot_list_extend PySem.F.type_list_extend mt_extA (ms_extend ok.hK) (ev_var (i := 4)) (lv_cons (ev_lc (own := [("one", 6), ("other", 7)]) ok.calm ok.nd (iv_val ok.hK (ev_call (i := 17) (F 17) ok.room ok.gu tk Z.m17 Z.k17 (lv_cons (ev_meth (i := 43) (c := 0) (F 43) ok.room ok.gu tk Z.t0 Z.cl0 Z.me43 (ev_var (i := 0)) (lv_cons (ev_var (i := 3)) (lv_nil))) (lv_cons (ev_var (i := 2)) (lv_nil))))) (blkOk_by (N := nm18) (sc := defScope st18) (by decide +kernel)) (fun _ _ _ _ _ => gv_tup ok.hK ok.calm (gsv_cons (gv_name (i := 6) ok.nd) (gsv_cons (gv_name (i := 7) ok.nd) (gsv_nil))) rfl) (fun _ _ _ _ _ => tsv_nil) (fun _ _ _ _ _ => ev_tup (lv_cons (ev_ix ok.hK ok.u2 (ev_ix ok.hK ok.u2 (ev_var (i := 2)) (ev_var (i := 6))) (ev_int)) (lv_cons (ev_ix ok.hK ok.u2 (ev_ix ok.hK ok.u2 (ev_var (i := 2)) (ev_bin op_sub ds_sub (ev_var (i := 7)) (ev_int))) (ev_int)) (lv_nil)))) (by simp [Tgt.slots, slotsL])) (lv_nil))))
    (sv_cons (sv_aug (i := 3) ok.nd iop_add ds_addI (ev_int))
    (sv_one (sv_set (i := 2) ok.nd (ev_call (i := 14) (F 14) ok.room ok.gu tk Z.m14 Z.k14 (lv_cons (ev_var (i := 0)) (lv_cons (ev_var (i := 1)) (lv_cons (ev_var (i := 3)) (lv_nil))))))))))
    (sv_cons (sv_if (tv_cmp op_gt (ds_cmp _) (ev_callB cr_lenV (cs_len ok.hK) (by rfl) Z.b_len boot_bi_len (lv_cons (ev_var (i := 2)) (lv_nil))) (ev_int) (hm := by with_unfolding_all rfl)) (sv_one (sv_expr (ev_ml ok.hK PySem.F.slot_list_extend PySem.F.type_list_extend mt_extA (ms_extend ok.hK) (ev_var (i := 4)) (lv_cons (ev_lc (own := [("one", 6), ("other", 7)]) ok.calm ok.nd (iv_val ok.hK (ev_call (i := 16) (F 16) ok.room ok.gu tk Z.m16 Z.k16 (lv_cons (ev_callB cr_lenV (cs_len ok.hK) (by rfl) Z.b_len boot_bi_len (lv_cons (ev_var (i := 2)) (lv_nil))) (lv_cons (ev_meth0 (i := 42) (c := 0) (F 42) ok.room ok.gu tk Z.t0 Z.cl0 Z.me42 (ev_var (i := 0))) (lv_nil))))) (blkOk_by (N := nm18) (sc := defScope st18) (by decide +kernel)) (fun _ _ _ _ _ => gv_tup ok.hK ok.calm (gsv_cons (gv_name (i := 6) ok.nd) (gsv_cons (gv_name (i := 7) ok.nd) (gsv_nil))) rfl) (fun _ _ _ _ _ => tsv_nil) (fun _ _ _ _ _ => ev_tup (lv_cons (ev_ix ok.hK ok.u2 (ev_ix ok.hK ok.u2 (ev_var (i := 2)) (ev_var (i := 6))) (ev_int)) (lv_cons (ev_ix ok.hK ok.u2 (ev_ix ok.hK ok.u2 (ev_var (i := 2)) (ev_bin op_sub ds_sub (ev_var (i := 7)) (ev_int))) (ev_int)) (lv_nil)))) (by simp [Tgt.slots, slotsL])) (lv_nil))))) (sv_nil))
    (sv_one (sv_ret (ev_sortKL ok lam (ev_var (i := 4)) (skl_by .neg) Z.b_sorted boot_bi_sorted)))))
theorem sc19 : FnScope nm19 ["one", "other", "end"] (defScope st19) := ⟨rfl, rfl, rfl, by decide +kernel, rfl, by decide +kernel, by decide +kernel⟩
abbrev X19 (P : Program) (w : World) (K : PySem.W.Frag) (mg : Str → Option Value) (base : Heap) (f : Addr) (cdv : Value) (A : Around) (outer : List PySem.Env) (s : Shared) (H : Hp) (E : XK) : Cx := cxOf (L2.CX P w) P w K mg base nm19 "comb_parts" (defScope st19) f cdv A outer s H E
set_option maxHeartbeats 4000000 in
theorem dv19 {G : Gd} {P : Program} {w : World} {mg : Str → Option Value} {base : Heap} {k : Nat} {ad : Nat → Addr} {t : Tab} (Z : Wd G.K G.T mg ad) (F : ∀ i, FG P w G.K mg base (k + 2) (ad i) (spT G (t i)))
    {f : Addr} {cdv : Value} {A : Around} {outer : List PySem.Env} {s : Shared} {H : Hp} {E : XK} {W : WX} (ok : Okk G (X19 P w G.K mg base f cdv A outer s H E) (k + 2)) (tk : Takes (X19 P w G.K mg base f cdv A outer s H E) W)
    (hp : PassesOwn (model P w) (X19 P w G.K mg base f cdv A outer s H E).A (X19 P w G.K mg base f cdv A outer s H E).env (X19 P w G.K mg base f cdv A outer s H E).xe) :
    PSsv G (X19 P w G.K mg base f cdv A outer s H E) W (d19 t) (defBody st19) :=
  sv_one (sv_ret (ev_if (tv_cmp (op_eqM ok.u1) (ds_eq ok.hK false) (ev_var (i := 2)) (ev_str) (hm := by with_unfolding_all rfl)) (ev_tup (lv_cons (ev_tup (lv_cons (ev_var (i := 0)) (lv_cons (ev_bin op_sub ds_sub (ev_var (i := 1)) (ev_int)) (lv_nil)))) (lv_cons (ev_tup (lv_cons (ev_bin op_sub ds_sub (ev_var (i := 1)) (ev_int)) (lv_cons (ev_var (i := 1)) (lv_nil)))) (lv_nil)))) (ev_tup (lv_cons (ev_tup (lv_cons (ev_var (i := 0)) (lv_cons (ev_bin op_addV (ds_add ok.hK) (ev_var (i := 0)) (ev_int)) (lv_nil)))) (lv_cons (ev_tup (lv_cons (ev_bin op_addV (ds_add ok.hK) (ev_var (i := 0)) (ev_int)) (lv_cons (ev_var (i := 1)) (lv_nil)))) (lv_nil))))))
theorem sc20 : FnScope nm20 ["self", "plan", "n"] (defScope st20) := ⟨rfl, rfl, rfl, by decide +kernel, rfl, by decide +kernel, by decide +kernel⟩
abbrev X20 (P : Program) (w : World) (K : PySem.W.Frag) (mg : Str → Option Value) (base : Heap) (f : Addr) (cdv : Value) (A : Around) (outer : List PySem.Env) (s : Shared) (H : Hp) (E : XK) : Cx := cxOf (L2.CX P w) P w K mg base nm20 "Rows.__init__" (defScope st20) f cdv A outer s H E
set_option maxHeartbeats 4000000 in
theorem dv20 {G : Gd} {P : Program} {w : World} {mg : Str → Option Value} {base : Heap} {k : Nat} {ad : Nat → Addr} {t : Tab} (Z : Wd G.K G.T mg ad) (F : ∀ i, FG P w G.K mg base (k + 2) (ad i) (spT G (t i)))
    {f : Addr} {cdv : Value} {A : Around} {outer : List PySem.Env} {s : Shared} {H : Hp} {E : XK} {W : WX} (ok : Okk G (X20 P w G.K mg base f cdv A outer s H E) (k + 2)) (tk : Takes (X20 P w G.K mg base f cdv A outer s H E) W)
    (hp : PassesOwn (model P w) (X20 P w G.K mg base f cdv A outer s H E).A (X20 P w G.K mg base f cdv A outer s H E).env (X20 P w G.K mg base f cdv A outer s H E).xe) :
    PSsv G (X20 P w G.K mg base f cdv A outer s H E) W (d20 t) (defBody st20) :=
  sv_cons (sv_fld Z.t1 Z.cl1 Z.na1_plan (ev_var (i := 0)) (ev_var (i := 1)))
    (sv_cons (sv_fld Z.t1 Z.cl1 Z.na1_many (ev_var (i := 0)) (ev_call (i := 12) (F 12) ok.room ok.gu tk Z.m12 Z.k12 (lv_cons (ev_var (i := 1)) (lv_cons (ev_var (i := 2)) (lv_nil)))))
    (sv_one (sv_fld Z.t1 Z.cl1 Z.na1_width (ev_var (i := 0)) (ev_call (i := 13) (F 13) ok.room ok.gu tk Z.m13 Z.k13 (lv_cons (ev_var (i := 1)) (lv_cons (ev_var (i := 2)) (lv_nil)))))))
theorem sc21 : FnScope nm21 ["self", "node"] (defScope st21) := ⟨rfl, rfl, rfl, by decide +kernel, rfl, by decide +kernel, by decide +kernel⟩
abbrev X21 (P : Program) (w : World) (K : PySem.W.Frag) (mg : Str → Option Value) (base : Heap) (f : Addr) (cdv : Value) (A : Around) (outer : List PySem.Env) (s : Shared) (H : Hp) (E : XK) : Cx := cxOf (L2.CX P w) P w K mg base nm21 "Rows.places" (defScope st21) f cdv A outer s H E
set_option maxHeartbeats 4000000 in
theorem dv21 {G : Gd} {P : Program} {w : World} {mg : Str → Option Value} {base : Heap} {k : Nat} {ad : Nat → Addr} {t : Tab} (Z : Wd G.K G.T mg ad) (F : ∀ i, FG P w G.K mg base (k + 2) (ad i) (spT G (t i)))
    {f : Addr} {cdv : Value} {A : Around} {outer : List PySem.Env} {s : Shared} {H : Hp} {E : XK} {W : WX} (ok : Okk G (X21 P w G.K mg base f cdv A outer s H E) (k + 2)) (tk : Takes (X21 P w G.K mg base f cdv A outer s H E) W)
    (hp : PassesOwn (model P w) (X21 P w G.K mg base f cdv A outer s H E).A (X21 P w G.K mg base f cdv A outer s H E).env (X21 P w G.K mg base f cdv A outer s H E).xe) :
    PSsv G (X21 P w G.K mg base f cdv A outer s H E) W (d21 t) (defBody st21) :=
  sv_cons (sv_asg (ev_var (i := 1)) (gv_tup ok.hK ok.calm (gsv_cons (gv_name (i := 2) ok.nd) (gsv_cons (gv_name (i := 3) ok.nd) (gsv_cons (gv_name (i := 4) ok.nd) (gsv_cons (gv_name (i := 5) ok.nd) (gsv_nil))))) rfl))
    (sv_one (sv_ret (ev_tup (lv_cons (ev_bin op_mulA (ds_mulA ok.hK) (ev_var (i := 3)) (ev_ix ok.hK ok.u2 (ev_fld Z.t1 Z.cl1 Z.na1_width (ev_var (i := 0))) (ev_var (i := 2)))) (lv_cons (ev_callB (cr_minV ok.calm) (cs_min ok.hK) (by rfl) Z.b_min boot_bi_min (lv_cons (ev_bin op_mulA (ds_mulA ok.hK) (ev_var (i := 4)) (ev_ix ok.hK ok.u2 (ev_fld Z.t1 Z.cl1 Z.na1_width (ev_var (i := 0))) (ev_var (i := 2)))) (lv_cons (ev_ix ok.hK ok.u2 (ev_fld Z.t1 Z.cl1 Z.na1_many (ev_var (i := 0))) (ev_int)) (lv_nil)))) (lv_nil))))))
theorem sc22 : FnScope nm22 ["self", "level", "number"] (defScope st22) := ⟨rfl, rfl, rfl, by decide +kernel, rfl, by decide +kernel, by decide +kernel⟩
abbrev X22 (P : Program) (w : World) (K : PySem.W.Frag) (mg : Str → Option Value) (base : Heap) (f : Addr) (cdv : Value) (A : Around) (outer : List PySem.Env) (s : Shared) (H : Hp) (E : XK) : Cx := cxOf (L2.CX P w) P w K mg base nm22 "Rows.stretch" (defScope st22) f cdv A outer s H E
set_option maxHeartbeats 4000000 in
theorem dv22 {G : Gd} {P : Program} {w : World} {mg : Str → Option Value} {base : Heap} {k : Nat} {ad : Nat → Addr} {t : Tab} (Z : Wd G.K G.T mg ad) (F : ∀ i, FG P w G.K mg base (k + 2) (ad i) (spT G (t i)))
    {f : Addr} {cdv : Value} {A : Around} {outer : List PySem.Env} {s : Shared} {H : Hp} {E : XK} {W : WX} (ok : Okk G (X22 P w G.K mg base f cdv A outer s H E) (k + 2)) (tk : Takes (X22 P w G.K mg base f cdv A outer s H E) W)
    (hp : PassesOwn (model P w) (X22 P w G.K mg base f cdv A outer s H E).A (X22 P w G.K mg base f cdv A outer s H E).env (X22 P w G.K mg base f cdv A outer s H E).xe) :
    PSsv G (X22 P w G.K mg base f cdv A outer s H E) W (d22 t) (defBody st22) :=
  sv_cons (sv_set (i := 3) ok.nd (ev_meth (i := 43) (c := 0) (F 43) ok.room ok.gu tk Z.t0 Z.cl0 Z.me43 (ev_fld Z.t1 Z.cl1 Z.na1_plan (ev_var (i := 0))) (lv_cons (ev_var (i := 1)) (lv_nil))))
    (sv_cons (sv_set (i := 4) ok.nd (ev_bin op_mulA (ds_mulA ok.hK) (ev_var (i := 2)) (ev_call (i := 7) (F 7) ok.room ok.gu tk Z.m7 Z.k7 (lv_cons (ev_var (i := 3)) (lv_nil)))))
    (sv_cons (sv_set (i := 5) ok.nd (ev_callB (cr_minV ok.calm) (cs_min ok.hK) (by rfl) Z.b_min boot_bi_min (lv_cons (ev_call (i := 7) (F 7) ok.room ok.gu tk Z.m7 Z.k7 (lv_cons (ev_var (i := 3)) (lv_nil))) (lv_cons (ev_bin op_sub ds_sub (ev_ix ok.hK ok.u2 (ev_fld Z.t1 Z.cl1 Z.na1_many (ev_var (i := 0))) (ev_var (i := 1))) (ev_var (i := 4))) (lv_nil)))))
    (sv_one (sv_ret (ev_tup (lv_cons (ev_var (i := 4)) (lv_cons (ev_var (i := 5)) (lv_cons (ev_call (i := 8) (F 8) ok.room ok.gu tk Z.m8 Z.k8 (lv_cons (ev_var (i := 3)) (lv_cons (ev_var (i := 5)) (lv_nil)))) (lv_nil)))))))))
theorem sc23 : FnScope nm23 ["self", "node"] (defScope st23) := ⟨rfl, rfl, rfl, by decide +kernel, rfl, by decide +kernel, by decide +kernel⟩
abbrev X23 (P : Program) (w : World) (K : PySem.W.Frag) (mg : Str → Option Value) (base : Heap) (f : Addr) (cdv : Value) (A : Around) (outer : List PySem.Env) (s : Shared) (H : Hp) (E : XK) : Cx := cxOf (L2.CX P w) P w K mg base nm23 "Rows.opened" (defScope st23) f cdv A outer s H E
set_option maxHeartbeats 4000000 in
theorem dv23 {G : Gd} {P : Program} {w : World} {mg : Str → Option Value} {base : Heap} {k : Nat} {ad : Nat → Addr} {t : Tab} (Z : Wd G.K G.T mg ad) (F : ∀ i, FG P w G.K mg base (k + 2) (ad i) (spT G (t i)))
    {f : Addr} {cdv : Value} {A : Around} {outer : List PySem.Env} {s : Shared} {H : Hp} {E : XK} {W : WX} (ok : Okk G (X23 P w G.K mg base f cdv A outer s H E) (k + 2)) (tk : Takes (X23 P w G.K mg base f cdv A outer s H E) W)
    (hp : PassesOwn (model P w) (X23 P w G.K mg base f cdv A outer s H E).A (X23 P w G.K mg base f cdv A outer s H E).env (X23 P w G.K mg base f cdv A outer s H E).xe) :
    PSsv G (X23 P w G.K mg base f cdv A outer s H E) W (d23 t) (defBody st23) :=
  sv_cons (sv_asg (ev_var (i := 1)) (gv_tup ok.hK ok.calm (gsv_cons (gv_name (i := 2) ok.nd) (gsv_cons (gv_name (i := 3) ok.nd) (gsv_cons (gv_name (i := 4) ok.nd) (gsv_cons (gv_name (i := 5) ok.nd) (gsv_nil))))) rfl))
    (sv_cons (sv_while (n := FUEL) hp (tv_bool (wv_and (tv_cmp (op_eqM ok.u1) (ds_eq ok.hK false) (ev_bin op_sub ds_sub (ev_var (i := 4)) (ev_var (i := 3))) (ev_int) (hm := by with_unfolding_all rfl)) (wv_and1 (tv_cmp op_gt (ds_cmp _) (ev_var (i := 2)) (ev_int) (hm := by with_unfolding_all rfl))))) (sv_cons (sv_aug (i := 2) ok.nd iop_sub ds_sub (ev_int))
    (sv_cons (sv_asg (ev_meth (i := 22) (c := 1) (F 22) ok.room ok.gu tk Z.t1 Z.cl1 Z.me22 (ev_var (i := 0)) (lv_cons (ev_var (i := 2)) (lv_cons (ev_var (i := 3)) (lv_nil)))) (gv_tup ok.hK ok.calm (gsv_cons (gv_name (i := 6) ok.nd) (gsv_cons (gv_name (i := 7) ok.nd) (gsv_cons (gv_name (i := 5) ok.nd) (gsv_nil)))) rfl))
    (sv_one (sv_par (i := 3) (j := 4) ok.calm ok.nd (lv_cons (ev_var (i := 6)) (lv_cons (ev_bin op_addV (ds_add ok.hK) (ev_var (i := 6)) (ev_var (i := 7))) (lv_nil))))))))
    (sv_one (sv_ret (ev_tup (lv_cons (ev_var (i := 2)) (lv_cons (ev_var (i := 3)) (lv_cons (ev_var (i := 4)) (lv_cons (ev_var (i := 5)) (lv_nil)))))))))
theorem sc24 : FnScope nm24 ["self"] (defScope st24) := ⟨rfl, rfl, rfl, by decide +kernel, rfl, by decide +kernel, by decide +kernel⟩
abbrev X24 (P : Program) (w : World) (K : PySem.W.Frag) (mg : Str → Option Value) (base : Heap) (f : Addr) (cdv : Value) (A : Around) (outer : List PySem.Env) (s : Shared) (H : Hp) (E : XK) : Cx := cxOf (L2.CX P w) P w K mg base nm24 "Rows.root" (defScope st24) f cdv A outer s H E
set_option maxHeartbeats 4000000 in
theorem dv24 {G : Gd} {P : Program} {w : World} {mg : Str → Option Value} {base : Heap} {k : Nat} {ad : Nat → Addr} {t : Tab} (Z : Wd G.K G.T mg ad) (F : ∀ i, FG P w G.K mg base (k + 2) (ad i) (spT G (t i)))
    {f : Addr} {cdv : Value} {A : Around} {outer : List PySem.Env} {s : Shared} {H : Hp} {E : XK} {W : WX} (ok : Okk G (X24 P w G.K mg base f cdv A outer s H E) (k + 2)) (tk : Takes (X24 P w G.K mg base f cdv A outer s H E) W)
    (hp : PassesOwn (model P w) (X24 P w G.K mg base f cdv A outer s H E).A (X24 P w G.K mg base f cdv A outer s H E).env (X24 P w G.K mg base f cdv A outer s H E).xe) :
    PSsv G (X24 P w G.K mg base f cdv A outer s H E) W (d24 t) (defBody st24) :=
  sv_one (sv_ret (ev_meth (i := 23) (c := 1) (F 23) ok.room ok.gu tk Z.t1 Z.cl1 Z.me23 (ev_var (i := 0)) (lv_cons (ev_tup (lv_cons (ev_bin op_sub ds_sub (ev_callB cr_lenV (cs_len ok.hK) (by rfl) Z.b_len boot_bi_len (lv_cons (ev_fld Z.t1 Z.cl1 Z.na1_many (ev_var (i := 0))) (lv_nil))) (ev_int)) (lv_cons (ev_int) (lv_cons (ev_ix ok.hK ok.u2 (ev_fld Z.t1 Z.cl1 Z.na1_many (ev_var (i := 0))) (ev_un un_neg ds_neg (ev_int))) (lv_cons (ev_non) (lv_nil)))))) (lv_nil))))
theorem sc25 : FnScope nm25 ["self", "node"] (defScope st25) := ⟨rfl, rfl, rfl, by decide +kernel, rfl, by decide +kernel, by decide +kernel⟩
abbrev X25 (P : Program) (w : World) (K : PySem.W.Frag) (mg : Str → Option Value) (base : Heap) (f : Addr) (cdv : Value) (A : Around) (outer : List PySem.Env) (s : Shared) (H : Hp) (E : XK) : Cx := cxOf (L2.CX P w) P w K mg base nm25 "Rows.parts" (defScope st25) f cdv A outer s H E
set_option maxHeartbeats 4000000 in
theorem dv25 {G : Gd} {P : Program} {w : World} {mg : Str → Option Value} {base : Heap} {k : Nat} {ad : Nat → Addr} {t : Tab} (Z : Wd G.K G.T mg ad) (F : ∀ i, FG P w G.K mg base (k + 2) (ad i) (spT G (t i)))
    {f : Addr} {cdv : Value} {A : Around} {outer : List PySem.Env} {s : Shared} {H : Hp} {E : XK} {W : WX} (ok : Okk G (X25 P w G.K mg base f cdv A outer s H E) (k + 2)) (tk : Takes (X25 P w G.K mg base f cdv A outer s H E) W)
    (hp : PassesOwn (model P w) (X25 P w G.K mg base f cdv A outer s H E).A (X25 P w G.K mg base f cdv A outer s H E).env (X25 P w G.K mg base f cdv A outer s H E).xe) :
    PSsv G (X25 P w G.K mg base f cdv A outer s H E) W (d25 t) (defBody st25) :=
  sv_cons (sv_asg (ev_var (i := 1)) (gv_tup ok.hK ok.calm (gsv_cons (gv_name (i := 2) ok.nd) (gsv_cons (gv_name (i := 3) ok.nd) (gsv_cons (gv_name (i := 4) ok.nd) (gsv_cons (gv_name (i := 5) ok.nd) (gsv_nil))))) rfl))
    (sv_cons (sv_if (tv_cmp (op_eqM ok.u1) (ds_eq ok.hK false) (ev_bin op_sub ds_sub (ev_var (i := 4)) (ev_var (i := 3))) (ev_int) (hm := by with_unfolding_all rfl)) (sv_one (sv_ret (ev_lst (lv_nil)))) (sv_nil))
    (sv_cons (sv_if (tv_cmp op_isV (ds_is false) (ev_var (i := 5)) (ev_non) (hm := by with_unfolding_all rfl)) (sv_cons (sv_set (i := 6) ok.nd (ev_call (i := 19) (F 19) ok.room ok.gu tk Z.m19 Z.k19 (lv_cons (ev_var (i := 3)) (lv_cons (ev_var (i := 4)) (lv_cons (ev_meth0 (i := 42) (c := 0) (F 42) ok.room ok.gu tk Z.t0 Z.cl0 Z.me42 (ev_fld Z.t1 Z.cl1 Z.na1_plan (ev_var (i := 0)))) (lv_nil))))))
    (sv_one (sv_ret (ev_lc (own := [("first", 8), ("last", 9)]) ok.calm ok.nd (iv_val ok.hK (ev_var (i := 6))) (blkOk_by (N := nm25) (sc := defScope st25) (by decide +kernel)) (fun _ _ _ _ _ => gv_tup ok.hK ok.calm (gsv_cons (gv_name (i := 8) ok.nd) (gsv_cons (gv_name (i := 9) ok.nd) (gsv_nil))) rfl) (fun _ _ _ _ _ => tsv_nil) (fun _ _ _ _ _ => ev_meth (i := 23) (c := 1) (F 23) ok.room ok.gu takes_no Z.t1 Z.cl1 Z.me23 (ev_var (i := 0)) (lv_cons (ev_tup (lv_cons (ev_var (i := 2)) (lv_cons (ev_var (i := 8)) (lv_cons (ev_var (i := 9)) (lv_cons (ev_non) (lv_nil)))))) (lv_nil))) (by simp [Tgt.slots, slotsL]))))) (sv_nil))
    (sv_cons (sv_set (i := 7) ok.nd (ev_bin op_addV (ds_add ok.hK) (ev_var (i := 3)) (ev_call (i := 3) (F 3) ok.room ok.gu tk Z.m3 Z.k3 (lv_cons (ev_ix ok.hK ok.u2 (ev_var (i := 5)) (ev_int)) (lv_nil)))))
    (sv_one (sv_ret (ev_lst (lv_cons (ev_meth (i := 23) (c := 1) (F 23) ok.room ok.gu tk Z.t1 Z.cl1 Z.me23 (ev_var (i := 0)) (lv_cons (ev_tup (lv_cons (ev_var (i := 2)) (lv_cons (ev_var (i := 3)) (lv_cons (ev_var (i := 7)) (lv_cons (ev_ix ok.hK ok.u2 (ev_var (i := 5)) (ev_int)) (lv_nil)))))) (lv_nil))) (lv_cons (ev_meth (i := 23) (c := 1) (F 23) ok.room ok.gu tk Z.t1 Z.cl1 Z.me23 (ev_var (i := 0)) (lv_cons (ev_tup (lv_cons (ev_var (i := 2)) (lv_cons (ev_var (i := 7)) (lv_cons (ev_var (i := 4)) (lv_cons (ev_ix ok.hK ok.u2 (ev_var (i := 5)) (ev_int)) (lv_nil)))))) (lv_nil))) (lv_nil)))))))))
theorem sc26 : FnScope nm26 ["self", "node", "low", "high"] (defScope st26) := ⟨rfl, rfl, rfl, by decide +kernel, rfl, by decide +kernel, by decide +kernel⟩
abbrev X26 (P : Program) (w : World) (K : PySem.W.Frag) (mg : Str → Option Value) (base : Heap) (f : Addr) (cdv : Value) (A : Around) (outer : List PySem.Env) (s : Shared) (H : Hp) (E : XK) : Cx := cxOf (L2.CX P w) P w K mg base nm26 "Rows.narrowed" (defScope st26) f cdv A outer s H E
set_option maxHeartbeats 4000000 in
theorem dv26 {G : Gd} {P : Program} {w : World} {mg : Str → Option Value} {base : Heap} {k : Nat} {ad : Nat → Addr} {t : Tab} (Z : Wd G.K G.T mg ad) (F : ∀ i, FG P w G.K mg base (k + 2) (ad i) (spT G (t i)))
    {f : Addr} {cdv : Value} {A : Around} {outer : List PySem.Env} {s : Shared} {H : Hp} {E : XK} {W : WX} (ok : Okk G (X26 P w G.K mg base f cdv A outer s H E) (k + 2)) (tk : Takes (X26 P w G.K mg base f cdv A outer s H E) W)
    (hp : PassesOwn (model P w) (X26 P w G.K mg base f cdv A outer s H E).A (X26 P w G.K mg base f cdv A outer s H E).env (X26 P w G.K mg base f cdv A outer s H E).xe) :
    PSsv G (X26 P w G.K mg base f cdv A outer s H E) W (d26 t) (defBody st26) :=
  sv_cons (sv_asg (ev_var (i := 1)) (gv_tup ok.hK ok.calm (gsv_cons (gv_name (i := 4) ok.nd) (gsv_cons (gv_name (i := 5) ok.nd) (gsv_cons (gv_name (i := 6) ok.nd) (gsv_cons (gv_name (i := 7) ok.nd) (gsv_nil))))) rfl))
    (sv_one (sv_while (n := FUEL) hp (tv_val ok.hK (ev_bl)) (sv_cons (sv_set (i := 8) ok.nd (ev_bin op_addV (ds_add ok.hK) (ev_var (i := 5)) (ev_call (i := 3) (F 3) ok.room ok.gu tk Z.m3 Z.k3 (lv_cons (ev_ix ok.hK ok.u2 (ev_var (i := 7)) (ev_int)) (lv_nil)))))
    (sv_cons (sv_if (tv_chn op_lt op_le (ds_cmp _) (ds_cmp _) (ev_var (i := 2)) (ev_var (i := 8)) (ev_var (i := 3))) (sv_one (sv_ret (ev_tup (lv_cons (ev_var (i := 4)) (lv_cons (ev_var (i := 5)) (lv_cons (ev_var (i := 6)) (lv_cons (ev_var (i := 7)) (lv_nil)))))))) (sv_nil))
    (sv_one (sv_asg (ev_if (tv_cmp op_lt (ds_cmp _) (ev_var (i := 3)) (ev_var (i := 8)) (hm := by with_unfolding_all rfl)) (ev_tup (lv_cons (ev_var (i := 5)) (lv_cons (ev_var (i := 8)) (lv_cons (ev_ix ok.hK ok.u2 (ev_var (i := 7)) (ev_int)) (lv_nil))))) (ev_tup (lv_cons (ev_var (i := 8)) (lv_cons (ev_var (i := 6)) (lv_cons (ev_ix ok.hK ok.u2 (ev_var (i := 7)) (ev_int)) (lv_nil)))))) (gv_tup ok.hK ok.calm (gsv_cons (gv_name (i := 5) ok.nd) (gsv_cons (gv_name (i := 6) ok.nd) (gsv_cons (gv_name (i := 7) ok.nd) (gsv_nil)))) rfl)))))))
theorem sc27 : FnScope nm27 ["self", "low", "high"] (defScope st27) := ⟨rfl, rfl, rfl, by decide +kernel, rfl, by decide +kernel, by decide +kernel⟩
abbrev X27 (P : Program) (w : World) (K : PySem.W.Frag) (mg : Str → Option Value) (base : Heap) (f : Addr) (cdv : Value) (A : Around) (outer : List PySem.Env) (s : Shared) (H : Hp) (E : XK) : Cx := cxOf (L2.CX P w) P w K mg base nm27 "Rows.least" (defScope st27) f cdv A outer s H E
set_option maxHeartbeats 4000000 in
theorem dv27 {G : Gd} {P : Program} {w : World} {mg : Str → Option Value} {base : Heap} {k : Nat} {ad : Nat → Addr} {t : Tab} (Z : Wd G.K G.T mg ad) (F : ∀ i, FG P w G.K mg base (k + 2) (ad i) (spT G (t i)))
    {f : Addr} {cdv : Value} {A : Around} {outer : List PySem.Env} {s : Shared} {H : Hp} {E : XK} {W : WX} (ok : Okk G (X27 P w G.K mg base f cdv A outer s H E) (k + 2)) (tk : Takes (X27 P w G.K mg base f cdv A outer s H E) W)
    (hp : PassesOwn (model P w) (X27 P w G.K mg base f cdv A outer s H E).A (X27 P w G.K mg base f cdv A outer s H E).env (X27 P w G.K mg base f cdv A outer s H E).xe) :
    PSsv G (X27 P w G.K mg base f cdv A outer s H E) W (d27 t) (defBody st27) :=
  sv_cons (sv_for hp ok.calm (iv_range1 (by rfl) Z.b_range (lv_cons (ev_bin op_sub ds_sub (ev_callB cr_lenV (cs_len ok.hK) (by rfl) Z.b_len boot_bi_len (lv_cons (ev_fld Z.t1 Z.cl1 Z.na1_many (ev_var (i := 0))) (lv_nil))) (ev_int)) (lv_nil))) (gv_name (i := 3) ok.nd) (sv_cons (sv_set (i := 4) ok.nd (ev_call (i := 7) (F 7) ok.room ok.gu tk Z.m7 Z.k7 (lv_cons (ev_meth (i := 43) (c := 0) (F 43) ok.room ok.gu tk Z.t0 Z.cl0 Z.me43 (ev_fld Z.t1 Z.cl1 Z.na1_plan (ev_var (i := 0))) (lv_cons (ev_var (i := 3)) (lv_nil))) (lv_nil))))
    (sv_cons (sv_if (tv_cmp (op_eqM ok.u1) (ds_eq ok.hK false) (ev_bin op_fdivW ds_fdiv (ev_var (i := 1)) (ev_var (i := 4))) (ev_bin op_fdivW ds_fdiv (ev_var (i := 2)) (ev_var (i := 4))) (hm := by with_unfolding_all rfl)) (sv_cons (sv_asg (ev_meth (i := 22) (c := 1) (F 22) ok.room ok.gu tk Z.t1 Z.cl1 Z.me22 (ev_var (i := 0)) (lv_cons (ev_var (i := 3)) (lv_cons (ev_bin op_fdivW ds_fdiv (ev_var (i := 1)) (ev_var (i := 4))) (lv_nil)))) (gv_tup ok.hK ok.calm (gsv_cons (gv_name (i := 5) ok.nd) (gsv_cons (gv_name (i := 6) ok.nd) (gsv_cons (gv_name (i := 7) ok.nd) (gsv_nil)))) rfl))
    (sv_one (sv_ret (ev_meth (i := 26) (c := 1) (F 26) ok.room ok.gu tk Z.t1 Z.cl1 Z.me26 (ev_var (i := 0)) (lv_cons (ev_tup (lv_cons (ev_var (i := 3)) (lv_cons (ev_var (i := 5)) (lv_cons (ev_bin op_addV (ds_add ok.hK) (ev_var (i := 5)) (ev_var (i := 6))) (lv_cons (ev_var (i := 7)) (lv_nil)))))) (lv_cons (ev_var (i := 1)) (lv_cons (ev_var (i := 2)) (lv_nil)))))))) (sv_nil))
    (sv_one (sv_par (i := 1) (j := 2) ok.calm ok.nd (lv_cons (ev_bin op_fdivW ds_fdiv (ev_var (i := 1)) (ev_var (i := 4))) (lv_cons (ev_bin op_fdivW ds_fdiv (ev_var (i := 2)) (ev_var (i := 4))) (lv_nil))))))))
    (sv_cons (sv_set (i := 3) ok.nd (ev_bin op_sub ds_sub (ev_callB cr_lenV (cs_len ok.hK) (by rfl) Z.b_len boot_bi_len (lv_cons (ev_fld Z.t1 Z.cl1 Z.na1_many (ev_var (i := 0))) (lv_nil))) (ev_int)))
    (sv_one (sv_ret (ev_if (tv_cmp (op_eqM ok.u1) (ds_eq ok.hK false) (ev_meth0 (i := 42) (c := 0) (F 42) ok.room ok.gu tk Z.t0 Z.cl0 Z.me42 (ev_fld Z.t1 Z.cl1 Z.na1_plan (ev_var (i := 0)))) (ev_str) (hm := by with_unfolding_all rfl)) (ev_tup (lv_cons (ev_var (i := 3)) (lv_cons (ev_int) (lv_cons (ev_bin op_addV (ds_add ok.hK) (ev_var (i := 2)) (ev_int)) (lv_cons (ev_non) (lv_nil)))))) (ev_tup (lv_cons (ev_var (i := 3)) (lv_cons (ev_var (i := 1)) (lv_cons (ev_ix ok.hK ok.u2 (ev_fld Z.t1 Z.cl1 Z.na1_many (ev_var (i := 0))) (ev_un un_neg ds_neg (ev_int))) (lv_cons (ev_non) (lv_nil))))))))))
theorem sc29 : FnScope nm29 ["plan", "n", "i", "j"] (defScope st29) := ⟨rfl, rfl, rfl, by decide +kernel, rfl, by decide +kernel, by decide +kernel⟩
abbrev X29 (P : Program) (w : World) (K : PySem.W.Frag) (mg : Str → Option Value) (base : Heap) (f : Addr) (cdv : Value) (A : Around) (outer : List PySem.Env) (s : Shared) (H : Hp) (E : XK) : Cx := cxOf (L2.CX P w) P w K mg base nm29 "are_lump_numbers" (defScope st29) f cdv A outer s H E
set_option maxHeartbeats 4000000 in
theorem dv29 {G : Gd} {P : Program} {w : World} {mg : Str → Option Value} {base : Heap} {k : Nat} {ad : Nat → Addr} {t : Tab} (Z : Wd G.K G.T mg ad) (F : ∀ i, FG P w G.K mg base (k + 2) (ad i) (spT G (t i)))
    {f : Addr} {cdv : Value} {A : Around} {outer : List PySem.Env} {s : Shared} {H : Hp} {E : XK} {W : WX} (ok : Okk G (X29 P w G.K mg base f cdv A outer s H E) (k + 2)) (tk : Takes (X29 P w G.K mg base f cdv A outer s H E) W)
    (hp : PassesOwn (model P w) (X29 P w G.K mg base f cdv A outer s H E).A (X29 P w G.K mg base f cdv A outer s H E).env (X29 P w G.K mg base f cdv A outer s H E).xe) :
    PSsv G (X29 P w G.K mg base f cdv A outer s H E) W (d29 t) (defBody st29) :=
  sv_cons (sv_set (i := 4) ok.nd (ev_int))
    (sv_cons (sv_while (n := FUEL) hp (tv_bool (wv_and (tv_cmp op_gt (ds_cmp _) (ev_bin op_sub ds_sub (ev_var (i := 3)) (ev_var (i := 2))) (ev_int) (hm := by with_unfolding_all rfl)) (wv_and1 (tv_cmp op_isnotV (ds_is true) (ev_meth (i := 43) (c := 0) (F 43) ok.room ok.gu tk Z.t0 Z.cl0 Z.me43 (ev_var (i := 0)) (lv_cons (ev_var (i := 4)) (lv_nil))) (ev_non) (hm := by with_unfolding_all rfl))))) (sv_cons (sv_set (i := 5) ok.nd (ev_meth (i := 43) (c := 0) (F 43) ok.room ok.gu tk Z.t0 Z.cl0 Z.me43 (ev_var (i := 0)) (lv_cons (ev_var (i := 4)) (lv_nil))))
    (sv_cons (sv_set (i := 6) ok.nd (ev_call (i := 7) (F 7) ok.room ok.gu tk Z.m7 Z.k7 (lv_cons (ev_var (i := 5)) (lv_nil))))
    (sv_cons (sv_set (i := 7) ok.nd (ev_bin op_mulA (ds_mulA ok.hK) (ev_bin op_fdivW ds_fdiv (ev_var (i := 2)) (ev_var (i := 6))) (ev_var (i := 6))))
    (sv_cons (sv_if (tv_cmp (op_eqM ok.u1) (ds_eq ok.hK false) (ev_var (i := 7)) (ev_bin op_mulA (ds_mulA ok.hK) (ev_bin op_fdivW ds_fdiv (ev_bin op_sub ds_sub (ev_var (i := 3)) (ev_int)) (ev_var (i := 6))) (ev_var (i := 6))) (hm := by with_unfolding_all rfl)) (sv_one (sv_ret (ev_cmp (op_inM ok.u1) (ds_in ok.hK false) (ev_tup (lv_cons (ev_bin op_sub ds_sub (ev_var (i := 2)) (ev_var (i := 7))) (lv_cons (ev_bin op_sub ds_sub (ev_var (i := 3)) (ev_var (i := 7))) (lv_nil)))) (ev_call (i := 15) (F 15) ok.room ok.gu tk Z.m15 Z.k15 (lv_cons (ev_call (i := 8) (F 8) ok.room ok.gu tk Z.m8 Z.k8 (lv_cons (ev_var (i := 5)) (lv_cons (ev_callB (cr_minV ok.calm) (cs_min ok.hK) (by rfl) Z.b_min boot_bi_min (lv_cons (ev_var (i := 6)) (lv_cons (ev_bin op_sub ds_sub (ev_var (i := 1)) (ev_var (i := 7))) (lv_nil)))) (lv_nil)))) (lv_nil))) (hm := by with_unfolding_all rfl)))) (sv_nil))
    (sv_cons (sv_if (tv_bool (wv_or (tv_cmp (op_neM ok.u1) (ds_eq ok.hK true) (ev_var (i := 2)) (ev_var (i := 7)) (hm := by with_unfolding_all rfl)) (wv_or1 (tv_bool (wv_and (tv_cmp (op_neM ok.u1) (ds_eq ok.hK true) (ev_bin op_mod ds_mod (ev_var (i := 3)) (ev_var (i := 6))) (ev_int) (hm := by with_unfolding_all rfl)) (wv_and1 (tv_cmp (op_neM ok.u1) (ds_eq ok.hK true) (ev_var (i := 3)) (ev_var (i := 1)) (hm := by with_unfolding_all rfl)))))))) (sv_one (sv_ret (ev_bl))) (sv_nil))
    (sv_cons (sv_par3 (i := 2) (j := 3) (l := 1) ok.calm ok.nd (lv_cons (ev_bin op_fdivW ds_fdiv (ev_var (i := 2)) (ev_var (i := 6))) (lv_cons (ev_bin op_fdivW ds_fdiv (ev_bin op_sub ds_sub (ev_bin op_addV (ds_add ok.hK) (ev_var (i := 3)) (ev_var (i := 6))) (ev_int)) (ev_var (i := 6))) (lv_cons (ev_bin op_fdivW ds_fdiv (ev_bin op_sub ds_sub (ev_bin op_addV (ds_add ok.hK) (ev_var (i := 1)) (ev_var (i := 6))) (ev_int)) (ev_var (i := 6))) (lv_nil)))))
    (sv_one (sv_aug (i := 4) ok.nd iop_add ds_addI (ev_int))))))))))
    (sv_one (sv_ret (ev_or ok.hK (ev_cmp (op_eqM ok.u1) (ds_eq ok.hK false) (ev_bin op_sub ds_sub (ev_var (i := 3)) (ev_var (i := 2))) (ev_int) (hm := by with_unfolding_all rfl)) (ev_or1 (ev_if (tv_cmp (op_eqM ok.u1) (ds_eq ok.hK false) (ev_meth0 (i := 42) (c := 0) (F 42) ok.room ok.gu tk Z.t0 Z.cl0 Z.me42 (ev_var (i := 0))) (ev_str) (hm := by with_unfolding_all rfl)) (ev_cmp (op_eqM ok.u1) (ds_eq ok.hK false) (ev_var (i := 2)) (ev_int) (hm := by with_unfolding_all rfl)) (ev_cmp (op_eqM ok.u1) (ds_eq ok.hK false) (ev_var (i := 3)) (ev_var (i := 1)) (hm := by with_unfolding_all rfl))))))))
theorem sc30 : FnScope nm30 ["plan", "n", "i", "j"] (defScope st30) := ⟨rfl, rfl, rfl, by decide +kernel, rfl, by decide +kernel, by decide +kernel⟩
abbrev X30 (P : Program) (w : World) (K : PySem.W.Frag) (mg : Str → Option Value) (base : Heap) (f : Addr) (cdv : Value) (A : Around) (outer : List PySem.Env) (s : Shared) (H : Hp) (E : XK) : Cx := cxOf (L2.CX P w) P w K mg base nm30 "is_lump" (defScope st30) f cdv A outer s H E
set_option maxHeartbeats 4000000 in
theorem dv30 {G : Gd} {P : Program} {w : World} {mg : Str → Option Value} {base : Heap} {k : Nat} {ad : Nat → Addr} {t : Tab} (Z : Wd G.K G.T mg ad) (F : ∀ i, FG P w G.K mg base (k + 2) (ad i) (spT G (t i)))
    {f : Addr} {cdv : Value} {A : Around} {outer : List PySem.Env} {s : Shared} {H : Hp} {E : XK} {W : WX} (ok : Okk G (X30 P w G.K mg base f cdv A outer s H E) (k + 2)) (tk : Takes (X30 P w G.K mg base f cdv A outer s H E) W)
    (hp : PassesOwn (model P w) (X30 P w G.K mg base f cdv A outer s H E).A (X30 P w G.K mg base f cdv A outer s H E).env (X30 P w G.K mg base f cdv A outer s H E).xe) :
    PSsv G (X30 P w G.K mg base f cdv A outer s H E) W (d30 t) (defBody st30) :=
  sv_one (sv_ret (ev_and ok.hK (ev_call (i := 1) (F 1) ok.room ok.gu tk Z.m1 Z.k1 (lv_cons (ev_var (i := 2)) (lv_nil))) (ev_and ok.hK (ev_call (i := 1) (F 1) ok.room ok.gu tk Z.m1 Z.k1 (lv_cons (ev_var (i := 3)) (lv_nil))) (ev_and ok.hK (ev_chn op_lt op_le (ds_cmp _) (ds_cmp _) (ev_var (i := 2)) (ev_var (i := 3)) (ev_var (i := 1))) (ev_or1 (ev_call (i := 29) (F 29) ok.room ok.gu tk Z.m29 Z.k29 (lv_cons (ev_var (i := 0)) (lv_cons (ev_var (i := 1)) (lv_cons (ev_var (i := 2)) (lv_cons (ev_var (i := 3)) (lv_nil)))))))))))
theorem sc31 : FnScope nm31 ["plan", "n", "path"] (defScope st31) := ⟨rfl, rfl, rfl, by decide +kernel, rfl, by decide +kernel, by decide +kernel⟩
abbrev X31 (P : Program) (w : World) (K : PySem.W.Frag) (mg : Str → Option Value) (base : Heap) (f : Addr) (cdv : Value) (A : Around) (outer : List PySem.Env) (s : Shared) (H : Hp) (E : XK) : Cx := cxOf (L2.CX P w) P w K mg base nm31 "lump_at" (defScope st31) f cdv A outer s H E
set_option maxHeartbeats 4000000 in
theorem dv31 {G : Gd} {P : Program} {w : World} {mg : Str → Option Value} {base : Heap} {k : Nat} {ad : Nat → Addr} {t : Tab} (Z : Wd G.K G.T mg ad) (F : ∀ i, FG P w G.K mg base (k + 2) (ad i) (spT G (t i)))
    {f : Addr} {cdv : Value} {A : Around} {outer : List PySem.Env} {s : Shared} {H : Hp} {E : XK} {W : WX} (ok : Okk G (X31 P w G.K mg base f cdv A outer s H E) (k + 2)) (tk : Takes (X31 P w G.K mg base f cdv A outer s H E) W)
    (hp : PassesOwn (model P w) (X31 P w G.K mg base f cdv A outer s H E).A (X31 P w G.K mg base f cdv A outer s H E).env (X31 P w G.K mg base f cdv A outer s H E).xe) :
    PSsv G (X31 P w G.K mg base f cdv A outer s H E) W (d31 t) (defBody st31) :=
  sv_cons (sv_if (tv_not (tv_val ok.hK (ev_callB cr_isi (cs_isi ok.hK Z.kf) (by rfl) Z.b_isinstance boot_bi_isinstance (lv_cons (ev_var (i := 2)) (lv_cons (ev_ty (by rfl) Z.b_tuple boot_ty_tuple) (lv_nil)))))) (sv_one (sv_ret (ev_non))) (sv_nil))
    (sv_cons (sv_set (i := 3) ok.nd (ev_call (i := 28) (F 28) ok.room ok.gu tk Z.m28 Z.k28 (lv_cons (ev_var (i := 0)) (lv_cons (ev_var (i := 1)) (lv_nil)))))
    (sv_cons (sv_set (i := 4) ok.nd (ev_meth0 (i := 24) (c := 1) (F 24) ok.room ok.gu tk Z.t1 Z.cl1 Z.me24 (ev_var (i := 3))))
    (sv_cons (sv_for hp ok.calm (iv_val ok.hK (ev_var (i := 2))) (gv_name (i := 5) ok.nd) (sv_cons (sv_set (i := 6) ok.nd (ev_meth (i := 25) (c := 1) (F 25) ok.room ok.gu tk Z.t1 Z.cl1 Z.me25 (ev_var (i := 3)) (lv_cons (ev_var (i := 4)) (lv_nil))))
    (sv_cons (sv_if (tv_bool (wv_or (tv_not (tv_val ok.hK (ev_call (i := 1) (F 1) ok.room ok.gu tk Z.m1 Z.k1 (lv_cons (ev_var (i := 5)) (lv_nil))))) (wv_or (tv_cmp op_gt (ds_cmp _) (ev_var (i := 5)) (ev_int) (hm := by with_unfolding_all rfl)) (wv_or1 (tv_cmp (op_eqM ok.u1) (ds_eq ok.hK false) (ev_var (i := 6)) (ev_lst (lv_nil)) (hm := by with_unfolding_all rfl)))))) (sv_one (sv_ret (ev_non))) (sv_nil))
    (sv_one (sv_set (i := 4) ok.nd (ev_ix ok.hK ok.u2 (ev_var (i := 6)) (ev_var (i := 5))))))))
    (sv_one (sv_ret (ev_meth (i := 21) (c := 1) (F 21) ok.room ok.gu tk Z.t1 Z.cl1 Z.me21 (ev_var (i := 3)) (lv_cons (ev_var (i := 4)) (lv_nil))))))))
theorem sc32 : FnScope nm32 ["plan", "n", "i", "j"] (defScope st32) := ⟨rfl, rfl, rfl, by decide +kernel, rfl, by decide +kernel, by decide +kernel⟩
abbrev X32 (P : Program) (w : World) (K : PySem.W.Frag) (mg : Str → Option Value) (base : Heap) (f : Addr) (cdv : Value) (A : Around) (outer : List PySem.Env) (s : Shared) (H : Hp) (E : XK) : Cx := cxOf (L2.CX P w) P w K mg base nm32 "path_of" (defScope st32) f cdv A outer s H E
set_option maxHeartbeats 4000000 in
theorem dv32 {G : Gd} {P : Program} {w : World} {mg : Str → Option Value} {base : Heap} {k : Nat} {ad : Nat → Addr} {t : Tab} (Z : Wd G.K G.T mg ad) (F : ∀ i, FG P w G.K mg base (k + 2) (ad i) (spT G (t i)))
    {f : Addr} {cdv : Value} {A : Around} {outer : List PySem.Env} {s : Shared} {H : Hp} {E : XK} {W : WX} (ok : Okk G (X32 P w G.K mg base f cdv A outer s H E) (k + 2)) (tk : Takes (X32 P w G.K mg base f cdv A outer s H E) W)
    (hp : PassesOwn (model P w) (X32 P w G.K mg base f cdv A outer s H E).A (X32 P w G.K mg base f cdv A outer s H E).env (X32 P w G.K mg base f cdv A outer s H E).xe) :
    PSsv G (X32 P w G.K mg base f cdv A outer s H E) W (d32 t) (defBody st32) :=
  sv_cons (sv_if (tv_not (tv_val ok.hK (ev_call (i := 30) (F 30) ok.room ok.gu tk Z.m30 Z.k30 (lv_cons (ev_var (i := 0)) (lv_cons (ev_var (i := 1)) (lv_cons (ev_var (i := 2)) (lv_cons (ev_var (i := 3)) (lv_nil)))))))) (sv_one (sv_ret (ev_non))) (sv_nil))
    (sv_cons (sv_par (i := 4) (j := 5) ok.calm ok.nd (lv_cons (ev_call (i := 28) (F 28) ok.room ok.gu tk Z.m28 Z.k28 (lv_cons (ev_var (i := 0)) (lv_cons (ev_var (i := 1)) (lv_nil)))) (lv_cons (ev_lst (lv_nil)) (lv_nil))))
    (sv_cons (sv_set (i := 6) ok.nd (ev_meth0 (i := 24) (c := 1) (F 24) ok.room ok.gu tk Z.t1 Z.cl1 Z.me24 (ev_var (i := 4))))
    (sv_cons (sv_while (n := FUEL) hp (tv_cmp (op_neM ok.u1) (ds_eq ok.hK true) (ev_meth (i := 21) (c := 1) (F 21) ok.room ok.gu tk Z.t1 Z.cl1 Z.me21 (ev_var (i := 4)) (lv_cons (ev_var (i := 6)) (lv_nil))) (ev_tup (lv_cons (ev_var (i := 2)) (lv_cons (ev_var (i := 3)) (lv_nil)))) (hm := by with_unfolding_all rfl)) (sv_cons (sv_if (tv_cmp (op_eqM ok.u1) (ds_eq ok.hK false) (ev_callB cr_lenV (cs_len ok.hK) (by rfl) Z.b_len boot_bi_len (lv_cons (ev_var (i := 5)) (lv_nil))) (ev_cint (by rfl) Z.i_MOST) (hm := by with_unfolding_all rfl)) (sv_one (sv_never)) (sv_nil))
    (sv_cons (sv_asg (ev_meth (i := 25) (c := 1) (F 25) ok.room ok.gu tk Z.t1 Z.cl1 Z.me25 (ev_var (i := 4)) (lv_cons (ev_var (i := 6)) (lv_nil))) (gv_tup ok.hK ok.calm (gsv_cons (gv_name (i := 7) ok.nd) (gsv_cons (gv_name (i := 8) ok.nd) (gsv_nil))) rfl))
    (sv_cons (sv_expr (ev_ml ok.hK PySem.F.slot_list_append PySem.F.type_list_append mt_append ms_append (ev_var (i := 5)) (lv_cons (ev_if (tv_cmp op_le (ds_cmp _) (ev_var (i := 3)) (ev_ix ok.hK ok.u2 (ev_meth (i := 21) (c := 1) (F 21) ok.room ok.gu tk Z.t1 Z.cl1 Z.me21 (ev_var (i := 4)) (lv_cons (ev_var (i := 7)) (lv_nil))) (ev_int)) (hm := by with_unfolding_all rfl)) (ev_int) (ev_int)) (lv_nil))))
    (sv_one (sv_set (i := 6) ok.nd (ev_ix ok.hK ok.u2 (ev_tup (lv_cons (ev_var (i := 7)) (lv_cons (ev_var (i := 8)) (lv_nil)))) (ev_ix ok.hK ok.u2 (ev_var (i := 5)) (ev_un un_neg ds_neg (ev_int))))))))))
    (sv_one (sv_ret (ev_callTy cr_tupleV (cs_tuple ok.hK) (by rfl) Z.b_tuple boot_ty_tuple (lv_cons (ev_var (i := 5)) (lv_nil))))))))
theorem sc33 : FnScope nm33 ["n", "values"] (defScope st33) := ⟨rfl, rfl, rfl, by decide +kernel, rfl, by decide +kernel, by decide +kernel⟩
abbrev X33 (P : Program) (w : World) (K : PySem.W.Frag) (mg : Str → Option Value) (base : Heap) (f : Addr) (cdv : Value) (A : Around) (outer : List PySem.Env) (s : Shared) (H : Hp) (E : XK) : Cx := cxOf (L2.CX P w) P w K mg base nm33 "need_places" (defScope st33) f cdv A outer s H E
set_option maxHeartbeats 4000000 in
theorem dv33 {G : Gd} {P : Program} {w : World} {mg : Str → Option Value} {base : Heap} {k : Nat} {ad : Nat → Addr} {t : Tab} (Z : Wd G.K G.T mg ad) (F : ∀ i, FG P w G.K mg base (k + 2) (ad i) (spT G (t i)))
    {f : Addr} {cdv : Value} {A : Around} {outer : List PySem.Env} {s : Shared} {H : Hp} {E : XK} {W : WX} (ok : Okk G (X33 P w G.K mg base f cdv A outer s H E) (k + 2)) (tk : Takes (X33 P w G.K mg base f cdv A outer s H E) W)
    (hp : PassesOwn (model P w) (X33 P w G.K mg base f cdv A outer s H E).A (X33 P w G.K mg base f cdv A outer s H E).env (X33 P w G.K mg base f cdv A outer s H E).xe) :
    PSsv G (X33 P w G.K mg base f cdv A outer s H E) W (d33 t) (defBody st33) :=
  sv_one (sv_for hp ok.calm (iv_val ok.hK (ev_var (i := 1))) (gv_name (i := 2) ok.nd) (sv_one (sv_if (tv_bool (wv_or (tv_not (tv_val ok.hK (ev_call (i := 1) (F 1) ok.room ok.gu tk Z.m1 Z.k1 (lv_cons (ev_var (i := 2)) (lv_nil))))) (wv_or1 (tv_cmp op_ge (ds_cmp _) (ev_var (i := 2)) (ev_var (i := 0)) (hm := by with_unfolding_all rfl))))) (sv_one (sv_never)) (sv_nil))))
theorem sc34 : FnScope nm34 ["plan", "n", "i", "j"] (defScope st34) := ⟨rfl, rfl, rfl, by decide +kernel, rfl, by decide +kernel, by decide +kernel⟩
abbrev X34 (P : Program) (w : World) (K : PySem.W.Frag) (mg : Str → Option Value) (base : Heap) (f : Addr) (cdv : Value) (A : Around) (outer : List PySem.Env) (s : Shared) (H : Hp) (E : XK) : Cx := cxOf (L2.CX P w) P w K mg base nm34 "least_lump" (defScope st34) f cdv A outer s H E
set_option maxHeartbeats 4000000 in
theorem dv34 {G : Gd} {P : Program} {w : World} {mg : Str → Option Value} {base : Heap} {k : Nat} {ad : Nat → Addr} {t : Tab} (Z : Wd G.K G.T mg ad) (F : ∀ i, FG P w G.K mg base (k + 2) (ad i) (spT G (t i)))
    {f : Addr} {cdv : Value} {A : Around} {outer : List PySem.Env} {s : Shared} {H : Hp} {E : XK} {W : WX} (ok : Okk G (X34 P w G.K mg base f cdv A outer s H E) (k + 2)) (tk : Takes (X34 P w G.K mg base f cdv A outer s H E) W)
    (hp : PassesOwn (model P w) (X34 P w G.K mg base f cdv A outer s H E).A (X34 P w G.K mg base f cdv A outer s H E).env (X34 P w G.K mg base f cdv A outer s H E).xe) :
    PSsv G (X34 P w G.K mg base f cdv A outer s H E) W (d34 t) (defBody st34) :=
  sv_cons (sv_expr (ev_call (i := 33) (F 33) ok.room ok.gu tk Z.m33 Z.k33 (lv_cons (ev_var (i := 1)) (lv_cons (ev_tup (lv_cons (ev_var (i := 2)) (lv_cons (ev_var (i := 3)) (lv_nil)))) (lv_nil)))))
    (sv_cons (sv_set (i := 4) ok.nd (ev_call (i := 28) (F 28) ok.room ok.gu tk Z.m28 Z.k28 (lv_cons (ev_var (i := 0)) (lv_cons (ev_var (i := 1)) (lv_nil)))))
    (sv_one (sv_ret (ev_if (tv_cmp (op_eqM ok.u1) (ds_eq ok.hK false) (ev_var (i := 2)) (ev_var (i := 3)) (hm := by with_unfolding_all rfl)) (ev_tup (lv_cons (ev_var (i := 2)) (lv_cons (ev_bin op_addV (ds_add ok.hK) (ev_var (i := 2)) (ev_int)) (lv_nil)))) (ev_meth (i := 21) (c := 1) (F 21) ok.room ok.gu tk Z.t1 Z.cl1 Z.me21 (ev_var (i := 4)) (lv_cons (ev_meth (i := 27) (c := 1) (F 27) ok.room ok.gu tk Z.t1 Z.cl1 Z.me27 (ev_var (i := 4)) (lv_cons (ev_callB (cr_minV ok.calm) (cs_min ok.hK) (by rfl) Z.b_min boot_bi_min (lv_cons (ev_var (i := 2)) (lv_cons (ev_var (i := 3)) (lv_nil)))) (lv_cons (ev_callB (cr_maxV ok.calm ok.u1) (cs_max ok.hK) (by rfl) Z.b_max boot_bi_max (lv_cons (ev_var (i := 2)) (lv_cons (ev_var (i := 3)) (lv_nil)))) (lv_nil)))) (lv_nil)))))))
theorem sc35 : FnScope nm35 ["plan", "n", "i", "j"] (defScope st35) := ⟨rfl, rfl, rfl, by decide +kernel, rfl, by decide +kernel, by decide +kernel⟩
abbrev X35 (P : Program) (w : World) (K : PySem.W.Frag) (mg : Str → Option Value) (base : Heap) (f : Addr) (cdv : Value) (A : Around) (outer : List PySem.Env) (s : Shared) (H : Hp) (E : XK) : Cx := cxOf (L2.CX P w) P w K mg base nm35 "crossing" (defScope st35) f cdv A outer s H E
set_option maxHeartbeats 4000000 in
theorem dv35 {G : Gd} {P : Program} {w : World} {mg : Str → Option Value} {base : Heap} {k : Nat} {ad : Nat → Addr} {t : Tab} (Z : Wd G.K G.T mg ad) (F : ∀ i, FG P w G.K mg base (k + 2) (ad i) (spT G (t i)))
    {f : Addr} {cdv : Value} {A : Around} {outer : List PySem.Env} {s : Shared} {H : Hp} {E : XK} {W : WX} (ok : Okk G (X35 P w G.K mg base f cdv A outer s H E) (k + 2)) (tk : Takes (X35 P w G.K mg base f cdv A outer s H E) W)
    (hp : PassesOwn (model P w) (X35 P w G.K mg base f cdv A outer s H E).A (X35 P w G.K mg base f cdv A outer s H E).env (X35 P w G.K mg base f cdv A outer s H E).xe) :
    PSsv G (X35 P w G.K mg base f cdv A outer s H E) W (d35 t) (defBody st35) :=
  sv_cons (sv_if (tv_val ok.hK (ev_call (i := 30) (F 30) ok.room ok.gu tk Z.m30 Z.k30 (lv_cons (ev_var (i := 0)) (lv_cons (ev_var (i := 1)) (lv_cons (ev_var (i := 2)) (lv_cons (ev_var (i := 3)) (lv_nil))))))) (sv_one (sv_ret (ev_non))) (sv_nil))
    (sv_cons (sv_set (i := 4) ok.nd (ev_call (i := 28) (F 28) ok.room ok.gu tk Z.m28 Z.k28 (lv_cons (ev_var (i := 0)) (lv_cons (ev_var (i := 1)) (lv_nil)))))
    (sv_cons (sv_asg (ev_lc (own := [("part", 7)]) ok.calm ok.nd (iv_val ok.hK (ev_meth (i := 25) (c := 1) (F 25) ok.room ok.gu tk Z.t1 Z.cl1 Z.me25 (ev_var (i := 4)) (lv_cons (ev_meth (i := 27) (c := 1) (F 27) ok.room ok.gu tk Z.t1 Z.cl1 Z.me27 (ev_var (i := 4)) (lv_cons (ev_var (i := 2)) (lv_cons (ev_bin op_sub ds_sub (ev_var (i := 3)) (ev_int)) (lv_nil)))) (lv_nil)))) (blkOk_by (N := nm35) (sc := defScope st35) (by decide +kernel)) (fun _ _ _ _ _ => gv_name (i := 7) ok.nd) (fun _ _ _ _ _ => tsv_nil) (fun _ _ _ _ _ => ev_meth (i := 21) (c := 1) (F 21) ok.room ok.gu takes_no Z.t1 Z.cl1 Z.me21 (ev_var (i := 4)) (lv_cons (ev_var (i := 7)) (lv_nil))) (by simp [Tgt.slots, slotsL])) (gv_tup ok.hK ok.calm (gsv_cons (gv_name (i := 5) ok.nd) (gsv_cons (gv_name (i := 6) ok.nd) (gsv_nil))) rfl))
    (sv_one (sv_ret (ev_if (tv_cmp op_lt (ds_cmp _) (ev_ix ok.hK ok.u2 (ev_var (i := 5)) (ev_int)) (ev_var (i := 2)) (hm := by with_unfolding_all rfl)) (ev_var (i := 5)) (ev_var (i := 6)))))))
theorem sc36 : FnScope nm36 ["plan", "n", "i"] (defScope st36) := ⟨rfl, rfl, rfl, by decide +kernel, rfl, by decide +kernel, by decide +kernel⟩
abbrev X36 (P : Program) (w : World) (K : PySem.W.Frag) (mg : Str → Option Value) (base : Heap) (f : Addr) (cdv : Value) (A : Around) (outer : List PySem.Env) (s : Shared) (H : Hp) (E : XK) : Cx := cxOf (L2.CX P w) P w K mg base nm36 "depth" (defScope st36) f cdv A outer s H E
set_option maxHeartbeats 4000000 in
theorem dv36 {G : Gd} {P : Program} {w : World} {mg : Str → Option Value} {base : Heap} {k : Nat} {ad : Nat → Addr} {t : Tab} (Z : Wd G.K G.T mg ad) (F : ∀ i, FG P w G.K mg base (k + 2) (ad i) (spT G (t i)))
    {f : Addr} {cdv : Value} {A : Around} {outer : List PySem.Env} {s : Shared} {H : Hp} {E : XK} {W : WX} (ok : Okk G (X36 P w G.K mg base f cdv A outer s H E) (k + 2)) (tk : Takes (X36 P w G.K mg base f cdv A outer s H E) W)
    (hp : PassesOwn (model P w) (X36 P w G.K mg base f cdv A outer s H E).A (X36 P w G.K mg base f cdv A outer s H E).env (X36 P w G.K mg base f cdv A outer s H E).xe) :
    PSsv G (X36 P w G.K mg base f cdv A outer s H E) W (d36 t) (defBody st36) :=
  sv_cons (sv_expr (ev_call (i := 33) (F 33) ok.room ok.gu tk Z.m33 Z.k33 (lv_cons (ev_var (i := 1)) (lv_cons (ev_tup (lv_cons (ev_var (i := 2)) (lv_nil))) (lv_nil)))))
    (sv_cons (sv_par (i := 3) (j := 4) ok.calm ok.nd (lv_cons (ev_call (i := 28) (F 28) ok.room ok.gu tk Z.m28 Z.k28 (lv_cons (ev_var (i := 0)) (lv_cons (ev_var (i := 1)) (lv_nil)))) (lv_cons (ev_int) (lv_nil))))
    (sv_cons (sv_for hp ok.calm (iv_range1 (by rfl) Z.b_range (lv_cons (ev_bin op_sub ds_sub (ev_callB cr_lenV (cs_len ok.hK) (by rfl) Z.b_len boot_bi_len (lv_cons (ev_fld Z.t1 Z.cl1 Z.na1_many (ev_var (i := 3))) (lv_nil))) (ev_int)) (lv_nil))) (gv_name (i := 5) ok.nd) (sv_cons (sv_set (i := 6) ok.nd (ev_call (i := 7) (F 7) ok.room ok.gu tk Z.m7 Z.k7 (lv_cons (ev_meth (i := 43) (c := 0) (F 43) ok.room ok.gu tk Z.t0 Z.cl0 Z.me43 (ev_var (i := 0)) (lv_cons (ev_var (i := 5)) (lv_nil))) (lv_nil))))
    (sv_cons (sv_asg (ev_meth (i := 22) (c := 1) (F 22) ok.room ok.gu tk Z.t1 Z.cl1 Z.me22 (ev_var (i := 3)) (lv_cons (ev_var (i := 5)) (lv_cons (ev_bin op_fdivW ds_fdiv (ev_var (i := 2)) (ev_var (i := 6))) (lv_nil)))) (gv_tup ok.hK ok.calm (gsv_cons (gv_name (i := 7) ok.nd) (gsv_cons (gv_name (i := 8) ok.nd) (gsv_cons (gv_name (i := 9) ok.nd) (gsv_nil)))) rfl))
    (sv_cons (sv_aug (i := 4) ok.nd iop_add ds_addI (ev_bin op_sub ds_sub (ev_callB cr_lenV (cs_len ok.hK) (by rfl) Z.b_len boot_bi_len (lv_cons (ev_lc (own := [("pair", 10)]) ok.calm ok.nd (iv_val ok.hK (ev_call (i := 15) (F 15) ok.room ok.gu tk Z.m15 Z.k15 (lv_cons (ev_var (i := 9)) (lv_nil)))) (blkOk_by (N := nm36) (sc := defScope st36) (by decide +kernel)) (fun _ _ _ _ _ => gv_name (i := 10) ok.nd) (fun _ _ _ _ _ => tsv_one (tv_chn op_le op_lt (ds_cmp _) (ds_cmp _) (ev_ix ok.hK ok.u2 (ev_var (i := 10)) (ev_int)) (ev_bin op_sub ds_sub (ev_var (i := 2)) (ev_var (i := 7))) (ev_ix ok.hK ok.u2 (ev_var (i := 10)) (ev_int)))) (fun _ _ _ _ _ => ev_var (i := 10)) (by simp [Tgt.slots, slotsL])) (lv_nil))) (ev_int)))
    (sv_one (sv_set (i := 2) ok.nd (ev_bin op_fdivW ds_fdiv (ev_var (i := 2)) (ev_var (i := 6)))))))))
    (sv_cons (sv_set (i := 8) ok.nd (ev_ix ok.hK ok.u2 (ev_fld Z.t1 Z.cl1 Z.na1_many (ev_var (i := 3))) (ev_un un_neg ds_neg (ev_int))))
    (sv_cons (sv_if (tv_cmp (op_eqM ok.u1) (ds_eq ok.hK false) (ev_var (i := 8)) (ev_int) (hm := by with_unfolding_all rfl)) (sv_one (sv_ret (ev_var (i := 4)))) (sv_nil))
    (sv_cons (sv_if (tv_cmp (op_eqM ok.u1) (ds_eq ok.hK false) (ev_meth0 (i := 42) (c := 0) (F 42) ok.room ok.gu tk Z.t0 Z.cl0 Z.me42 (ev_var (i := 0))) (ev_str) (hm := by with_unfolding_all rfl)) (sv_one (sv_ret (ev_bin op_addV (ds_add ok.hK) (ev_var (i := 4)) (ev_callB (cr_minV ok.calm) (cs_min ok.hK) (by rfl) Z.b_min boot_bi_min (lv_cons (ev_bin op_sub ds_sub (ev_var (i := 8)) (ev_int)) (lv_cons (ev_bin op_sub ds_sub (ev_var (i := 8)) (ev_var (i := 2))) (lv_nil))))))) (sv_nil))
    (sv_one (sv_ret (ev_bin op_addV (ds_add ok.hK) (ev_var (i := 4)) (ev_callB (cr_minV ok.calm) (cs_min ok.hK) (by rfl) Z.b_min boot_bi_min (lv_cons (ev_bin op_sub ds_sub (ev_var (i := 8)) (ev_int)) (lv_cons (ev_bin op_addV (ds_add ok.hK) (ev_var (i := 2)) (ev_int)) (lv_nil))))))))))))
theorem sc37 : FnScope nm37 ["tables"] (defScope st37) := ⟨rfl, rfl, rfl, by decide +kernel, rfl, by decide +kernel, by decide +kernel⟩
abbrev X37 (P : Program) (w : World) (K : PySem.W.Frag) (mg : Str → Option Value) (base : Heap) (f : Addr) (cdv : Value) (A : Around) (outer : List PySem.Env) (s : Shared) (H : Hp) (E : XK) : Cx := cxOf (L2.CX P w) P w K mg base nm37 "wrong_member" (defScope st37) f cdv A outer s H E
set_option maxHeartbeats 4000000 in
theorem dv37 {G : Gd} {P : Program} {w : World} {mg : Str → Option Value} {base : Heap} {k : Nat} {ad : Nat → Addr} {t : Tab} (Z : Wd G.K G.T mg ad) (F : ∀ i, FG P w G.K mg base (k + 2) (ad i) (spT G (t i)))
    {f : Addr} {cdv : Value} {A : Around} {outer : List PySem.Env} {s : Shared} {H : Hp} {E : XK} {W : WX} (ok : Okk G (X37 P w G.K mg base f cdv A outer s H E) (k + 2)) (tk : Takes (X37 P w G.K mg base f cdv A outer s H E) W)
    (hp : PassesOwn (model P w) (X37 P w G.K mg base f cdv A outer s H E).A (X37 P w G.K mg base f cdv A outer s H E).env (X37 P w G.K mg base f cdv A outer s H E).xe) :
    PSsv G (X37 P w G.K mg base f cdv A outer s H E) W (d37 t) (defBody st37) :=
  sv_cons (sv_for hp ok.calm (iv_enum ok.hK (by rfl) Z.b_enumerate (lv_cons (ev_var (i := 0)) (lv_nil))) (gv_tup ok.hK ok.calm (gsv_cons (gv_name (i := 1) ok.nd) (gsv_cons (gv_name (i := 2) ok.nd) (gsv_nil))) rfl) (sv_cons (sv_set (i := 3) ok.nd (ev_call (i := 6) (F 6) ok.room ok.gu tk Z.m6 Z.k6 (lv_cons (ev_var (i := 2)) (lv_nil))))
    (sv_one (sv_if (tv_cmp op_isnotV (ds_is true) (ev_var (i := 3)) (ev_non) (hm := by with_unfolding_all rfl)) (sv_one (sv_ret (ev_tup (lv_cons (ev_var (i := 1)) (lv_star ok.hK (ev_var (i := 3)) (lv_nil)))))) (sv_nil)))))
    (sv_one (sv_ret (ev_non)))
theorem sc38 : FnScope nm38 ["tables", "end"] (defScope st38) := ⟨rfl, rfl, rfl, by decide +kernel, rfl, by decide +kernel, by decide +kernel⟩
abbrev X38 (P : Program) (w : World) (K : PySem.W.Frag) (mg : Str → Option Value) (base : Heap) (f : Addr) (cdv : Value) (A : Around) (outer : List PySem.Env) (s : Shared) (H : Hp) (E : XK) : Cx := cxOf (L2.CX P w) P w K mg base nm38 "wrong_plan" (defScope st38) f cdv A outer s H E
set_option maxHeartbeats 4000000 in
theorem dv38 {G : Gd} {P : Program} {w : World} {mg : Str → Option Value} {base : Heap} {k : Nat} {ad : Nat → Addr} {t : Tab} (Z : Wd G.K G.T mg ad) (F : ∀ i, FG P w G.K mg base (k + 2) (ad i) (spT G (t i)))
    {f : Addr} {cdv : Value} {A : Around} {outer : List PySem.Env} {s : Shared} {H : Hp} {E : XK} {W : WX} (ok : Okk G (X38 P w G.K mg base f cdv A outer s H E) (k + 2)) (tk : Takes (X38 P w G.K mg base f cdv A outer s H E) W)
    (hp : PassesOwn (model P w) (X38 P w G.K mg base f cdv A outer s H E).A (X38 P w G.K mg base f cdv A outer s H E).env (X38 P w G.K mg base f cdv A outer s H E).xe) :
    PSsv G (X38 P w G.K mg base f cdv A outer s H E) W (d38 t) (defBody st38) :=
  sv_cons (sv_if (tv_not (tv_val ok.hK (ev_callB cr_isi (cs_isi ok.hK Z.kf) (by rfl) Z.b_isinstance boot_bi_isinstance (lv_cons (ev_var (i := 0)) (lv_cons (ev_tup (lv_cons (ev_ty (by rfl) Z.b_list boot_ty_list) (lv_cons (ev_ty (by rfl) Z.b_tuple boot_ty_tuple) (lv_nil)))) (lv_nil)))))) (sv_one (sv_ret (ev_tup (lv_cons (ev_int) (lv_nil))))) (sv_nil))
    (sv_cons (sv_set (i := 2) ok.nd (ev_call (i := 37) (F 37) ok.room ok.gu tk Z.m37 Z.k37 (lv_cons (ev_var (i := 0)) (lv_nil))))
    (sv_cons (sv_if (tv_cmp op_isnotV (ds_is true) (ev_var (i := 2)) (ev_non) (hm := by with_unfolding_all rfl)) (sv_one (sv_ret (ev_tup (lv_cons (ev_int) (lv_star ok.hK (ev_var (i := 2)) (lv_nil)))))) (sv_nil))
    (sv_cons (sv_if (tv_bool (wv_and (tv_val ok.hK (ev_callB cr_isi (cs_isi ok.hK Z.kf) (by rfl) Z.b_isinstance boot_bi_isinstance (lv_cons (ev_var (i := 1)) (lv_cons (ev_ty (by rfl) Z.b_str boot_ty_str) (lv_nil))))) (wv_and1 (tv_cmp (op_inM ok.u1) (ds_in ok.hK false) (ev_var (i := 1)) (ev_cons (by rfl) Z.c_ENDS) (hm := by with_unfolding_all rfl))))) (sv_one (sv_ret (ev_non))) (sv_nil))
    (sv_cons (sv_if (tv_bool (wv_or (tv_not (tv_val ok.hK (ev_callB cr_isi (cs_isi ok.hK Z.kf) (by rfl) Z.b_isinstance boot_bi_isinstance (lv_cons (ev_var (i := 1)) (lv_cons (ev_ty (by rfl) Z.b_tuple boot_ty_tuple) (lv_nil)))))) (wv_or1 (tv_cmp (op_eqM ok.u1) (ds_eq ok.hK false) (ev_var (i := 1)) (ev_tup (lv_nil)) (hm := by with_unfolding_all rfl))))) (sv_one (sv_ret (ev_tup (lv_cons (ev_int) (lv_nil))))) (sv_nil))
    (sv_cons (sv_set (i := 2) ok.nd (ev_call (i := 37) (F 37) ok.room ok.gu tk Z.m37 Z.k37 (lv_cons (ev_var (i := 1)) (lv_nil))))
    (sv_one (sv_ret (ev_if (tv_cmp op_isV (ds_is false) (ev_var (i := 2)) (ev_non) (hm := by with_unfolding_all rfl)) (ev_non) (ev_tup (lv_cons (ev_int) (lv_star ok.hK (ev_var (i := 2)) (lv_nil))))))))))))
theorem sc39 : FnScope nm39 ["self", "tables", "end"] (defScope st39) := ⟨rfl, rfl, rfl, by decide +kernel, rfl, by decide +kernel, by decide +kernel⟩
abbrev X39 (P : Program) (w : World) (K : PySem.W.Frag) (mg : Str → Option Value) (base : Heap) (f : Addr) (cdv : Value) (A : Around) (outer : List PySem.Env) (s : Shared) (H : Hp) (E : XK) : Cx := cxOf (L2.CX P w) P w K mg base nm39 "Plan.__init__" (defScope st39) f cdv A outer s H E
set_option maxHeartbeats 4000000 in
theorem dv39 {G : Gd} {P : Program} {w : World} {mg : Str → Option Value} {base : Heap} {k : Nat} {ad : Nat → Addr} {t : Tab} (Z : Wd G.K G.T mg ad) (F : ∀ i, FG P w G.K mg base (k + 2) (ad i) (spT G (t i)))
    {f : Addr} {cdv : Value} {A : Around} {outer : List PySem.Env} {s : Shared} {H : Hp} {E : XK} {W : WX} (ok : Okk G (X39 P w G.K mg base f cdv A outer s H E) (k + 2)) (tk : Takes (X39 P w G.K mg base f cdv A outer s H E) W)
    (hp : PassesOwn (model P w) (X39 P w G.K mg base f cdv A outer s H E).A (X39 P w G.K mg base f cdv A outer s H E).env (X39 P w G.K mg base f cdv A outer s H E).xe) :
    PSsv G (X39 P w G.K mg base f cdv A outer s H E) W (d39 t) (defBody st39) :=
  sv_cons (sv_set (i := 3) ok.nd (ev_call (i := 38) (F 38) ok.room ok.gu tk Z.m38 Z.k38 (lv_cons (ev_var (i := 1)) (lv_cons (ev_var (i := 2)) (lv_nil)))))
    (sv_cons (sv_if (tv_cmp op_isnotV (ds_is true) (ev_var (i := 3)) (ev_non) (hm := by with_unfolding_all rfl)) (sv_one (sv_never)) (sv_nil))
    (sv_cons (sv_fld Z.t0 Z.cl0 Z.na0_own_tables (ev_var (i := 0)) (ev_callTy cr_tupleV (cs_tuple ok.hK) (by rfl) Z.b_tuple boot_ty_tuple (lv_cons (ev_var (i := 1)) (lv_nil))))
    (sv_one (sv_fld Z.t0 Z.cl0 Z.na0_own_end (ev_var (i := 0)) (ev_var (i := 2))))))
theorem sc40 : FnScope nm40 ["self", "other"] (defScope st40) := ⟨rfl, rfl, rfl, by decide +kernel, rfl, by decide +kernel, by decide +kernel⟩
abbrev X40 (P : Program) (w : World) (K : PySem.W.Frag) (mg : Str → Option Value) (base : Heap) (f : Addr) (cdv : Value) (A : Around) (outer : List PySem.Env) (s : Shared) (H : Hp) (E : XK) : Cx := cxOf (L2.CX P w) P w K mg base nm40 "Plan.__eq__" (defScope st40) f cdv A outer s H E
set_option maxHeartbeats 4000000 in
theorem dv40 {G : Gd} {P : Program} {w : World} {mg : Str → Option Value} {base : Heap} {k : Nat} {ad : Nat → Addr} {t : Tab} (Z : Wd G.K G.T mg ad) (F : ∀ i, FG P w G.K mg base (k + 2) (ad i) (spT G (t i)))
    {f : Addr} {cdv : Value} {A : Around} {outer : List PySem.Env} {s : Shared} {H : Hp} {E : XK} {W : WX} (ok : Okk G (X40 P w G.K mg base f cdv A outer s H E) (k + 2)) (tk : Takes (X40 P w G.K mg base f cdv A outer s H E) W)
    (hp : PassesOwn (model P w) (X40 P w G.K mg base f cdv A outer s H E).A (X40 P w G.K mg base f cdv A outer s H E).env (X40 P w G.K mg base f cdv A outer s H E).xe) :
    PSsv G (X40 P w G.K mg base f cdv A outer s H E) W (d40 t) (defBody st40) :=
  sv_one (sv_ret (ev_and ok.hK (ev_isC Z.t0 Z.ic0 (by rfl) Z.m44 (by rfl) Z.b_isinstance (ev_var (i := 1))) (ev_or1 (ev_cmp (op_eqM ok.u1) (ds_eq ok.hK false) (ev_tup (lv_cons (ev_fld Z.t0 Z.cl0 Z.na0_own_tables (ev_var (i := 0))) (lv_cons (ev_fld Z.t0 Z.cl0 Z.na0_own_end (ev_var (i := 0))) (lv_nil)))) (ev_tup (lv_cons (ev_fld Z.t0 Z.cl0 Z.na0_own_tables (ev_var (i := 1))) (lv_cons (ev_fld Z.t0 Z.cl0 Z.na0_own_end (ev_var (i := 1))) (lv_nil)))) (hm := by with_unfolding_all rfl)))))
theorem sc41 : FnScope nm41 ["self"] (defScope st41) := ⟨rfl, rfl, rfl, by decide +kernel, rfl, by decide +kernel, by decide +kernel⟩
abbrev X41 (P : Program) (w : World) (K : PySem.W.Frag) (mg : Str → Option Value) (base : Heap) (f : Addr) (cdv : Value) (A : Around) (outer : List PySem.Env) (s : Shared) (H : Hp) (E : XK) : Cx := cxOf (L2.CX P w) P w K mg base nm41 "Plan.tables" (defScope st41) f cdv A outer s H E
set_option maxHeartbeats 4000000 in
theorem dv41 {G : Gd} {P : Program} {w : World} {mg : Str → Option Value} {base : Heap} {k : Nat} {ad : Nat → Addr} {t : Tab} (Z : Wd G.K G.T mg ad) (F : ∀ i, FG P w G.K mg base (k + 2) (ad i) (spT G (t i)))
    {f : Addr} {cdv : Value} {A : Around} {outer : List PySem.Env} {s : Shared} {H : Hp} {E : XK} {W : WX} (ok : Okk G (X41 P w G.K mg base f cdv A outer s H E) (k + 2)) (tk : Takes (X41 P w G.K mg base f cdv A outer s H E) W)
    (hp : PassesOwn (model P w) (X41 P w G.K mg base f cdv A outer s H E).A (X41 P w G.K mg base f cdv A outer s H E).env (X41 P w G.K mg base f cdv A outer s H E).xe) :
    PSsv G (X41 P w G.K mg base f cdv A outer s H E) W (d41 t) (defBody st41) :=
  sv_one (sv_ret (ev_fld Z.t0 Z.cl0 Z.na0_own_tables (ev_var (i := 0))))
theorem sc42 : FnScope nm42 ["self"] (defScope st42) := ⟨rfl, rfl, rfl, by decide +kernel, rfl, by decide +kernel, by decide +kernel⟩
abbrev X42 (P : Program) (w : World) (K : PySem.W.Frag) (mg : Str → Option Value) (base : Heap) (f : Addr) (cdv : Value) (A : Around) (outer : List PySem.Env) (s : Shared) (H : Hp) (E : XK) : Cx := cxOf (L2.CX P w) P w K mg base nm42 "Plan.end" (defScope st42) f cdv A outer s H E
set_option maxHeartbeats 4000000 in
theorem dv42 {G : Gd} {P : Program} {w : World} {mg : Str → Option Value} {base : Heap} {k : Nat} {ad : Nat → Addr} {t : Tab} (Z : Wd G.K G.T mg ad) (F : ∀ i, FG P w G.K mg base (k + 2) (ad i) (spT G (t i)))
    {f : Addr} {cdv : Value} {A : Around} {outer : List PySem.Env} {s : Shared} {H : Hp} {E : XK} {W : WX} (ok : Okk G (X42 P w G.K mg base f cdv A outer s H E) (k + 2)) (tk : Takes (X42 P w G.K mg base f cdv A outer s H E) W)
    (hp : PassesOwn (model P w) (X42 P w G.K mg base f cdv A outer s H E).A (X42 P w G.K mg base f cdv A outer s H E).env (X42 P w G.K mg base f cdv A outer s H E).xe) :
    PSsv G (X42 P w G.K mg base f cdv A outer s H E) W (d42 t) (defBody st42) :=
  sv_one (sv_ret (ev_fld Z.t0 Z.cl0 Z.na0_own_end (ev_var (i := 0))))
theorem sc43 : FnScope nm43 ["self", "k"] (defScope st43) := ⟨rfl, rfl, rfl, by decide +kernel, rfl, by decide +kernel, by decide +kernel⟩
abbrev X43 (P : Program) (w : World) (K : PySem.W.Frag) (mg : Str → Option Value) (base : Heap) (f : Addr) (cdv : Value) (A : Around) (outer : List PySem.Env) (s : Shared) (H : Hp) (E : XK) : Cx := cxOf (L2.CX P w) P w K mg base nm43 "Plan.stage" (defScope st43) f cdv A outer s H E
set_option maxHeartbeats 4000000 in
theorem dv43 {G : Gd} {P : Program} {w : World} {mg : Str → Option Value} {base : Heap} {k : Nat} {ad : Nat → Addr} {t : Tab} (Z : Wd G.K G.T mg ad) (F : ∀ i, FG P w G.K mg base (k + 2) (ad i) (spT G (t i)))
    {f : Addr} {cdv : Value} {A : Around} {outer : List PySem.Env} {s : Shared} {H : Hp} {E : XK} {W : WX} (ok : Okk G (X43 P w G.K mg base f cdv A outer s H E) (k + 2)) (tk : Takes (X43 P w G.K mg base f cdv A outer s H E) W)
    (hp : PassesOwn (model P w) (X43 P w G.K mg base f cdv A outer s H E).A (X43 P w G.K mg base f cdv A outer s H E).env (X43 P w G.K mg base f cdv A outer s H E).xe) :
    PSsv G (X43 P w G.K mg base f cdv A outer s H E) W (d43 t) (defBody st43) :=
  sv_cons (sv_if (tv_cmp op_lt (ds_cmp _) (ev_var (i := 1)) (ev_callB cr_lenV (cs_len ok.hK) (by rfl) Z.b_len boot_bi_len (lv_cons (ev_fld Z.t0 Z.cl0 Z.na0_own_tables (ev_var (i := 0))) (lv_nil))) (hm := by with_unfolding_all rfl)) (sv_one (sv_ret (ev_ix ok.hK ok.u2 (ev_fld Z.t0 Z.cl0 Z.na0_own_tables (ev_var (i := 0))) (ev_var (i := 1))))) (sv_nil))
    (sv_cons (sv_if (tv_cmp (op_inM ok.u1) (ds_in ok.hK false) (ev_fld Z.t0 Z.cl0 Z.na0_own_end (ev_var (i := 0))) (ev_cons (by rfl) Z.c_ENDS) (hm := by with_unfolding_all rfl)) (sv_one (sv_ret (ev_non))) (sv_nil))
    (sv_one (sv_ret (ev_ix ok.hK ok.u2 (ev_fld Z.t0 Z.cl0 Z.na0_own_end (ev_var (i := 0))) (ev_bin op_mod ds_mod (ev_bin op_sub ds_sub (ev_var (i := 1)) (ev_callB cr_lenV (cs_len ok.hK) (by rfl) Z.b_len boot_bi_len (lv_cons (ev_fld Z.t0 Z.cl0 Z.na0_own_tables (ev_var (i := 0))) (lv_nil)))) (ev_callB cr_lenV (cs_len ok.hK) (by rfl) Z.b_len boot_bi_len (lv_cons (ev_fld Z.t0 Z.cl0 Z.na0_own_end (ev_var (i := 0))) (lv_nil))))))))
theorem sc45 : FnScope nm45 [] (defScope st45) := ⟨rfl, rfl, rfl, by decide +kernel, rfl, by decide +kernel, by decide +kernel⟩
abbrev X45 (P : Program) (w : World) (K : PySem.W.Frag) (mg : Str → Option Value) (base : Heap) (f : Addr) (cdv : Value) (A : Around) (outer : List PySem.Env) (s : Shared) (H : Hp) (E : XK) : Cx := cxOf (L2.CX P w) P w K mg base nm45 "_law_example_right" (defScope st45) f cdv A outer s H E
set_option maxHeartbeats 4000000 in
theorem dv45 {G : Gd} {P : Program} {w : World} {mg : Str → Option Value} {base : Heap} {k : Nat} {ad : Nat → Addr} {t : Tab} (Z : Wd G.K G.T mg ad) (F : ∀ i, FG P w G.K mg base (k + 2) (ad i) (spT G (t i)))
    {f : Addr} {cdv : Value} {A : Around} {outer : List PySem.Env} {s : Shared} {H : Hp} {E : XK} {W : WX} (ok : Okk G (X45 P w G.K mg base f cdv A outer s H E) (k + 2)) (tk : Takes (X45 P w G.K mg base f cdv A outer s H E) W)
    (hp : PassesOwn (model P w) (X45 P w G.K mg base f cdv A outer s H E).A (X45 P w G.K mg base f cdv A outer s H E).env (X45 P w G.K mg base f cdv A outer s H E).xe) :
    PSsv G (X45 P w G.K mg base f cdv A outer s H E) W (d45 t) (defBody st45) :=
  sv_cons (sv_set (i := 0) ok.nd (ev_tup (lv_cons (ev_tup (lv_nil)) (lv_cons (ev_tup (lv_nil)) (lv_nil)))))
    (sv_cons (sv_asg (ev_tup (lv_cons (ev_call (i := 44) (F 44) ok.room ok.gu tk Z.m44 Z.k44 (lv_cons (ev_lst (lv_cons (ev_tup (lv_cons (ev_var (i := 0)) (lv_nil))) (lv_nil))) (lv_cons (ev_str) (lv_nil)))) (lv_cons (ev_bin op_pow ds_pow (ev_int) (ev_int)) (lv_nil)))) (gv_tup ok.hK ok.calm (gsv_cons (gv_name (i := 1) ok.nd) (gsv_cons (gv_name (i := 2) ok.nd) (gsv_nil))) rfl))
    (sv_cons (sv_set (i := 3) ok.nd (ev_lst (lv_cons (ev_tup (lv_cons (ev_int) (lv_cons (ev_int) (lv_nil)))) (lv_cons (ev_tup (lv_cons (ev_int) (lv_cons (ev_int) (lv_nil)))) (lv_cons (ev_tup (lv_cons (ev_int) (lv_cons (ev_int) (lv_nil)))) (lv_cons (ev_tup (lv_cons (ev_int) (lv_cons (ev_int) (lv_nil)))) (lv_cons (ev_tup (lv_cons (ev_int) (lv_cons (ev_int) (lv_nil)))) (lv_cons (ev_tup (lv_cons (ev_int) (lv_cons (ev_int) (lv_nil)))) (lv_cons (ev_tup (lv_cons (ev_int) (lv_cons (ev_int) (lv_nil)))) (lv_cons (ev_tup (lv_cons (ev_int) (lv_cons (ev_int) (lv_nil)))) (lv_cons (ev_tup (lv_cons (ev_int) (lv_cons (ev_int) (lv_nil)))) (lv_cons (ev_tup (lv_cons (ev_int) (lv_cons (ev_int) (lv_nil)))) (lv_cons (ev_tup (lv_cons (ev_int) (lv_cons (ev_int) (lv_nil)))) (lv_cons (ev_tup (lv_cons (ev_int) (lv_cons (ev_int) (lv_nil)))) (lv_cons (ev_tup (lv_cons (ev_int) (lv_cons (ev_int) (lv_nil)))) (lv_nil))))))))))))))))
    (sv_cons (sv_if (tv_bool (wv_or (tv_cmp (op_neM ok.u1) (ds_eq ok.hK true) (ev_call (i := 11) (F 11) ok.room ok.gu tk Z.m11 Z.k11 (lv_cons (ev_var (i := 1)) (lv_cons (ev_int) (lv_nil)))) (ev_tup (lv_cons (ev_tup (lv_cons (ev_tup (lv_cons (ev_var (i := 0)) (lv_cons (ev_var (i := 0)) (lv_nil)))) (lv_cons (ev_var (i := 0)) (lv_nil)))) (lv_cons (ev_tup (lv_nil)) (lv_nil)))) (hm := by with_unfolding_all rfl)) (wv_or (tv_cmp (op_neM ok.u1) (ds_eq ok.hK true) (ev_call (i := 18) (F 18) ok.room ok.gu tk Z.m18 Z.k18 (lv_cons (ev_var (i := 1)) (lv_cons (ev_int) (lv_nil)))) (ev_var (i := 3)) (hm := by with_unfolding_all rfl)) (wv_or1 (tv_cmp (op_neM ok.u1) (ds_eq ok.hK true) (ev_call (i := 14) (F 14) ok.room ok.gu tk Z.m14 Z.k14 (lv_cons (ev_var (i := 1)) (lv_cons (ev_int) (lv_cons (ev_int) (lv_nil))))) (ev_lst (lv_cons (ev_tup (lv_cons (ev_int) (lv_cons (ev_int) (lv_nil)))) (lv_cons (ev_tup (lv_cons (ev_int) (lv_cons (ev_int) (lv_nil)))) (lv_cons (ev_tup (lv_cons (ev_int) (lv_cons (ev_int) (lv_nil)))) (lv_cons (ev_tup (lv_cons (ev_int) (lv_cons (ev_int) (lv_nil)))) (lv_nil)))))) (hm := by with_unfolding_all rfl)))))) (sv_one (sv_ret (ev_bl))) (sv_nil))
    (sv_cons (sv_if (tv_cmp (op_neM ok.u1) (ds_eq ok.hK true) (ev_lst (lv_cons (ev_call (i := 36) (F 36) ok.room ok.gu tk Z.m36 Z.k36 (lv_cons (ev_var (i := 1)) (lv_cons (ev_int) (lv_cons (ev_int) (lv_nil))))) (lv_cons (ev_call (i := 32) (F 32) ok.room ok.gu tk Z.m32 Z.k32 (lv_cons (ev_var (i := 1)) (lv_cons (ev_int) (lv_cons (ev_int) (lv_cons (ev_int) (lv_nil)))))) (lv_cons (ev_call (i := 34) (F 34) ok.room ok.gu tk Z.m34 Z.k34 (lv_cons (ev_var (i := 1)) (lv_cons (ev_int) (lv_cons (ev_int) (lv_cons (ev_int) (lv_nil)))))) (lv_cons (ev_call (i := 31) (F 31) ok.room ok.gu tk Z.m31 Z.k31 (lv_cons (ev_var (i := 1)) (lv_cons (ev_int) (lv_cons (ev_tup (lv_cons (ev_int) (lv_cons (ev_int) (lv_nil)))) (lv_nil))))) (lv_nil)))))) (ev_lst (lv_cons (ev_int) (lv_cons (ev_tup (lv_cons (ev_int) (lv_cons (ev_int) (lv_cons (ev_int) (lv_cons (ev_int) (lv_nil)))))) (lv_cons (ev_tup (lv_cons (ev_int) (lv_cons (ev_int) (lv_nil)))) (lv_cons (ev_tup (lv_cons (ev_int) (lv_cons (ev_int) (lv_nil)))) (lv_nil)))))) (hm := by with_unfolding_all rfl)) (sv_one (sv_ret (ev_bl))) (sv_nil))
    (sv_cons (sv_if (tv_bool (wv_or (tv_cmp (op_neM ok.u1) (ds_eq ok.hK true) (ev_call (i := 36) (F 36) ok.room ok.gu tk Z.m36 Z.k36 (lv_cons (ev_var (i := 1)) (lv_cons (ev_var (i := 2)) (lv_cons (ev_int) (lv_nil))))) (ev_bin op_mulA (ds_mulA ok.hK) (ev_int) (ev_bin op_pow ds_pow (ev_int) (ev_int))) (hm := by with_unfolding_all rfl)) (wv_or1 (tv_cmp op_isnotV (ds_is true) (ev_call (i := 30) (F 30) ok.room ok.gu tk Z.m30 Z.k30 (lv_cons (ev_var (i := 1)) (lv_cons (ev_var (i := 2)) (lv_cons (ev_int) (lv_cons (ev_bin op_pow ds_pow (ev_int) (ev_int)) (lv_nil)))))) (ev_bl) (hm := by with_unfolding_all rfl))))) (sv_one (sv_ret (ev_bl))) (sv_nil))
    (sv_one (sv_ret (ev_cmp (op_eqM ok.u1) (ds_eq ok.hK false) (ev_lc (own := [("_law_k", 4)]) ok.calm ok.nd (iv_val ok.hK (ev_tup (lv_cons (ev_int) (lv_cons (ev_int) (lv_cons (ev_int) (lv_nil)))))) (blkOk_by (N := nm45) (sc := defScope st45) (by decide +kernel)) (fun _ _ _ _ _ => gv_name (i := 4) ok.nd) (fun _ _ _ _ _ => tsv_nil) (fun _ _ _ _ _ => ev_call (i := 30) (F 30) ok.room ok.gu takes_no Z.m30 Z.k30 (lv_cons (ev_var (i := 1)) (lv_cons (ev_var (i := 2)) (lv_cons (ev_bin op_pow ds_pow (ev_int) (ev_int)) (lv_cons (ev_bin op_addV (ds_add ok.hK) (ev_bin op_pow ds_pow (ev_int) (ev_int)) (ev_var (i := 4))) (lv_nil)))))) (by simp [Tgt.slots, slotsL])) (ev_lst (lv_cons (ev_bl) (lv_cons (ev_bl) (lv_cons (ev_bl) (lv_nil))))) (hm := by with_unfolding_all rfl)))))))))
theorem sc46 : FnScope nm46 ["_law_script"] (defScope st46) := ⟨rfl, rfl, rfl, by decide +kernel, rfl, by decide +kernel, by decide +kernel⟩
abbrev X46 (P : Program) (w : World) (K : PySem.W.Frag) (mg : Str → Option Value) (base : Heap) (f : Addr) (cdv : Value) (A : Around) (outer : List PySem.Env) (s : Shared) (H : Hp) (E : XK) : Cx := cxOf (L2.CX P w) P w K mg base nm46 "law" (defScope st46) f cdv A outer s H E
set_option maxHeartbeats 4000000 in
theorem dv46 {G : Gd} {P : Program} {w : World} {mg : Str → Option Value} {base : Heap} {k : Nat} {ad : Nat → Addr} {t : Tab} (Z : Wd G.K G.T mg ad) (F : ∀ i, FG P w G.K mg base (k + 2) (ad i) (spT G (t i)))
    {f : Addr} {cdv : Value} {A : Around} {outer : List PySem.Env} {s : Shared} {H : Hp} {E : XK} {W : WX} (ok : Okk G (X46 P w G.K mg base f cdv A outer s H E) (k + 2)) (tk : Takes (X46 P w G.K mg base f cdv A outer s H E) W)
    (hp : PassesOwn (model P w) (X46 P w G.K mg base f cdv A outer s H E).A (X46 P w G.K mg base f cdv A outer s H E).env (X46 P w G.K mg base f cdv A outer s H E).xe) :
    PSsv G (X46 P w G.K mg base f cdv A outer s H E) W (d46 t) (defBody st46) :=
  sv_cons (sv_set (i := 1) ok.nd (ev_tup (lv_cons (ev_tup (lv_nil)) (lv_cons (ev_tup (lv_nil)) (lv_nil)))))
    (sv_cons (sv_asg (ev_tup (lv_cons (ev_tup (lv_cons (ev_var (i := 1)) (lv_cons (ev_tup (lv_cons (ev_var (i := 1)) (lv_cons (ev_tup (lv_nil)) (lv_nil)))) (lv_nil)))) (lv_cons (ev_tup (lv_cons (ev_var (i := 1)) (lv_cons (ev_tup (lv_cons (ev_tup (lv_nil)) (lv_cons (ev_var (i := 1)) (lv_nil)))) (lv_nil)))) (lv_nil)))) (gv_tup ok.hK ok.calm (gsv_cons (gv_name (i := 2) ok.nd) (gsv_cons (gv_name (i := 3) ok.nd) (gsv_nil))) rfl))
    (sv_cons (sv_asg (ev_tup (lv_cons (ev_call (i := 44) (F 44) ok.room ok.gu tk Z.m44 Z.k44 (lv_cons (ev_lst (lv_cons (ev_var (i := 2)) (lv_cons (ev_var (i := 3)) (lv_nil)))) (lv_cons (ev_str) (lv_nil)))) (lv_cons (ev_call (i := 44) (F 44) ok.room ok.gu tk Z.m44 Z.k44 (lv_cons (ev_tup (lv_nil)) (lv_cons (ev_tup (lv_cons (ev_tup (lv_cons (ev_var (i := 1)) (lv_nil))) (lv_nil))) (lv_nil)))) (lv_nil)))) (gv_tup ok.hK ok.calm (gsv_cons (gv_name (i := 4) ok.nd) (gsv_cons (gv_name (i := 5) ok.nd) (gsv_nil))) rfl))
    (sv_cons (sv_par (i := 6) (j := 7) ok.calm ok.nd (lv_cons (ev_tup (lv_cons (ev_var (i := 1)) (lv_cons (ev_tup (lv_nil)) (lv_nil)))) (lv_cons (ev_tup (lv_cons (ev_tup (lv_nil)) (lv_cons (ev_var (i := 1)) (lv_nil)))) (lv_nil))))
    (sv_cons (sv_if (tv_cmp (op_neM ok.u1) (ds_eq ok.hK true) (ev_lc (own := [("_law_n", 9)]) ok.calm ok.nd (iv_val ok.hK (ev_tup (lv_cons (ev_int) (lv_cons (ev_int) (lv_cons (ev_int) (lv_cons (ev_int) (lv_cons (ev_int) (lv_cons (ev_int) (lv_nil))))))))) (blkOk_by (N := nm46) (sc := defScope st46) (by decide +kernel)) (fun _ _ _ _ _ => gv_name (i := 9) ok.nd) (fun _ _ _ _ _ => tsv_nil) (fun _ _ _ _ _ => ev_call (i := 11) (F 11) ok.room ok.gu takes_no Z.m11 Z.k11 (lv_cons (ev_var (i := 4)) (lv_cons (ev_var (i := 9)) (lv_nil)))) (by simp [Tgt.slots, slotsL])) (ev_lst (lv_cons (ev_tup (lv_nil)) (lv_cons (ev_var (i := 1)) (lv_cons (ev_var (i := 6)) (lv_cons (ev_tup (lv_cons (ev_var (i := 6)) (lv_cons (ev_tup (lv_nil)) (lv_nil)))) (lv_cons (ev_tup (lv_cons (ev_var (i := 6)) (lv_cons (ev_var (i := 1)) (lv_nil)))) (lv_cons (ev_tup (lv_cons (ev_var (i := 6)) (lv_cons (ev_tup (lv_cons (ev_var (i := 6)) (lv_cons (ev_tup (lv_nil)) (lv_nil)))) (lv_nil)))) (lv_nil)))))))) (hm := by with_unfolding_all rfl)) (sv_one (sv_ret (ev_bl))) (sv_nil))
    (sv_cons (sv_if (tv_bool (wv_or (tv_cmp (op_neM ok.u1) (ds_eq ok.hK true) (ev_call (i := 11) (F 11) ok.room ok.gu tk Z.m11 Z.k11 (lv_cons (ev_var (i := 4)) (lv_cons (ev_int) (lv_nil)))) (ev_tup (lv_cons (ev_tup (lv_cons (ev_var (i := 6)) (lv_cons (ev_tup (lv_cons (ev_var (i := 6)) (lv_cons (ev_var (i := 6)) (lv_nil)))) (lv_nil)))) (lv_cons (ev_tup (lv_cons (ev_var (i := 6)) (lv_cons (ev_tup (lv_nil)) (lv_nil)))) (lv_nil)))) (hm := by with_unfolding_all rfl)) (wv_or (tv_cmp (op_neM ok.u1) (ds_eq ok.hK true) (ev_call (i := 36) (F 36) ok.room ok.gu tk Z.m36 Z.k36 (lv_cons (ev_var (i := 4)) (lv_cons (ev_int) (lv_cons (ev_int) (lv_nil))))) (ev_int) (hm := by with_unfolding_all rfl)) (wv_or1 (tv_cmp (op_neM ok.u1) (ds_eq ok.hK true) (ev_call (i := 36) (F 36) ok.room ok.gu tk Z.m36 Z.k36 (lv_cons (ev_var (i := 4)) (lv_cons (ev_int) (lv_cons (ev_int) (lv_nil))))) (ev_int) (hm := by with_unfolding_all rfl)))))) (sv_one (sv_ret (ev_bl))) (sv_nil))
    (sv_cons (sv_if (tv_cmp (op_neM ok.u1) (ds_eq ok.hK true) (ev_lc (own := [("_law_end", 10)]) ok.calm ok.nd (iv_val ok.hK (ev_tup (lv_cons (ev_str) (lv_cons (ev_str) (lv_nil))))) (blkOk_by (N := nm46) (sc := defScope st46) (by decide +kernel)) (fun _ _ _ _ _ => gv_name (i := 10) ok.nd) (fun _ _ _ _ _ => tsv_nil) (fun _ _ _ _ _ => ev_call (i := 11) (F 11) ok.room ok.gu takes_no Z.m11 Z.k11 (lv_cons (ev_call (i := 44) (F 44) ok.room ok.gu takes_no Z.m44 Z.k44 (lv_cons (ev_lst (lv_cons (ev_var (i := 3)) (lv_nil))) (lv_cons (ev_var (i := 10)) (lv_nil)))) (lv_cons (ev_int) (lv_nil)))) (by simp [Tgt.slots, slotsL])) (ev_lst (lv_cons (ev_tup (lv_cons (ev_tup (lv_cons (ev_var (i := 7)) (lv_cons (ev_var (i := 7)) (lv_nil)))) (lv_cons (ev_var (i := 1)) (lv_nil)))) (lv_cons (ev_tup (lv_cons (ev_var (i := 7)) (lv_cons (ev_tup (lv_cons (ev_var (i := 7)) (lv_cons (ev_var (i := 1)) (lv_nil)))) (lv_nil)))) (lv_nil)))) (hm := by with_unfolding_all rfl)) (sv_one (sv_ret (ev_bl))) (sv_nil))
    (sv_cons (sv_if (tv_cmp (op_neM ok.u1) (ds_eq ok.hK true) (ev_call (i := 11) (F 11) ok.room ok.gu tk Z.m11 Z.k11 (lv_cons (ev_var (i := 5)) (lv_cons (ev_int) (lv_nil)))) (ev_tup (lv_cons (ev_tup (lv_cons (ev_var (i := 1)) (lv_cons (ev_var (i := 1)) (lv_nil)))) (lv_cons (ev_tup (lv_cons (ev_var (i := 1)) (lv_cons (ev_tup (lv_nil)) (lv_nil)))) (lv_nil)))) (hm := by with_unfolding_all rfl)) (sv_one (sv_ret (ev_bl))) (sv_nil))
    (sv_cons (sv_set (i := 8) ok.nd (ev_bin op_pow ds_pow (ev_int) (ev_int)))
    (sv_cons (sv_if (tv_cmp (op_neM ok.u1) (ds_eq ok.hK true) (ev_lc (own := [("_law_i", 11)]) ok.calm ok.nd (iv_val ok.hK (ev_tup (lv_cons (ev_int) (lv_cons (ev_int) (lv_cons (ev_bin op_pow ds_pow (ev_int) (ev_int)) (lv_nil)))))) (blkOk_by (N := nm46) (sc := defScope st46) (by decide +kernel)) (fun _ _ _ _ _ => gv_name (i := 11) ok.nd) (fun _ _ _ _ _ => tsv_nil) (fun _ _ _ _ _ => ev_call (i := 34) (F 34) ok.room ok.gu takes_no Z.m34 Z.k34 (lv_cons (ev_var (i := 5)) (lv_cons (ev_var (i := 8)) (lv_cons (ev_int) (lv_cons (ev_var (i := 11)) (lv_nil)))))) (by simp [Tgt.slots, slotsL])) (ev_lst (lv_cons (ev_tup (lv_cons (ev_int) (lv_cons (ev_int) (lv_nil)))) (lv_cons (ev_tup (lv_cons (ev_int) (lv_cons (ev_int) (lv_nil)))) (lv_cons (ev_tup (lv_cons (ev_int) (lv_cons (ev_var (i := 8)) (lv_nil)))) (lv_nil))))) (hm := by with_unfolding_all rfl)) (sv_one (sv_ret (ev_bl))) (sv_nil))
    (sv_cons (sv_if (tv_cmp (op_neM ok.u1) (ds_eq ok.hK true) (ev_lc (own := [("_law_i", 11)]) ok.calm ok.nd (iv_val ok.hK (ev_tup (lv_cons (ev_int) (lv_cons (ev_var (i := 8)) (lv_nil))))) (blkOk_by (N := nm46) (sc := defScope st46) (by decide +kernel)) (fun _ _ _ _ _ => gv_name (i := 11) ok.nd) (fun _ _ _ _ _ => tsv_nil) (fun _ _ _ _ _ => ev_call (i := 36) (F 36) ok.room ok.gu takes_no Z.m36 Z.k36 (lv_cons (ev_var (i := 5)) (lv_cons (ev_bin op_addV (ds_add ok.hK) (ev_var (i := 8)) (ev_int)) (lv_cons (ev_var (i := 11)) (lv_nil))))) (by simp [Tgt.slots, slotsL])) (ev_lst (lv_cons (ev_int) (lv_cons (ev_int) (lv_nil)))) (hm := by with_unfolding_all rfl)) (sv_one (sv_ret (ev_bl))) (sv_nil))
    (sv_cons (sv_if (tv_cmp (op_neM ok.u1) (ds_eq ok.hK true) (ev_call (i := 32) (F 32) ok.room ok.gu tk Z.m32 Z.k32 (lv_cons (ev_var (i := 5)) (lv_cons (ev_bin op_addV (ds_add ok.hK) (ev_var (i := 8)) (ev_int)) (lv_cons (ev_var (i := 8)) (lv_cons (ev_bin op_addV (ds_add ok.hK) (ev_var (i := 8)) (ev_int)) (lv_nil)))))) (ev_tup (lv_cons (ev_int) (lv_nil))) (hm := by with_unfolding_all rfl)) (sv_one (sv_ret (ev_bl))) (sv_nil))
    (sv_cons (sv_if (tv_cmp (op_neM ok.u1) (ds_eq ok.hK true) (ev_lc (own := [("_law_i", 11), ("_law_j", 12)]) ok.calm ok.nd (iv_val ok.hK (ev_lst (lv_cons (ev_tup (lv_cons (ev_int) (lv_cons (ev_int) (lv_nil)))) (lv_cons (ev_tup (lv_cons (ev_int) (lv_cons (ev_int) (lv_nil)))) (lv_cons (ev_tup (lv_cons (ev_int) (lv_cons (ev_int) (lv_nil)))) (lv_nil)))))) (blkOk_by (N := nm46) (sc := defScope st46) (by decide +kernel)) (fun _ _ _ _ _ => gv_tup ok.hK ok.calm (gsv_cons (gv_name (i := 11) ok.nd) (gsv_cons (gv_name (i := 12) ok.nd) (gsv_nil))) rfl) (fun _ _ _ _ _ => tsv_nil) (fun _ _ _ _ _ => ev_call (i := 35) (F 35) ok.room ok.gu takes_no Z.m35 Z.k35 (lv_cons (ev_var (i := 5)) (lv_cons (ev_int) (lv_cons (ev_var (i := 11)) (lv_cons (ev_var (i := 12)) (lv_nil)))))) (by simp [Tgt.slots, slotsL])) (ev_lst (lv_cons (ev_tup (lv_cons (ev_int) (lv_cons (ev_int) (lv_nil)))) (lv_cons (ev_tup (lv_cons (ev_int) (lv_cons (ev_int) (lv_nil)))) (lv_cons (ev_non) (lv_nil))))) (hm := by with_unfolding_all rfl)) (sv_one (sv_ret (ev_bl))) (sv_nil))
    (sv_cons (sv_if (tv_cmp (op_notInM ok.u1) (ds_in ok.hK true) (ev_call (i := 35) (F 35) ok.room ok.gu tk Z.m35 Z.k35 (lv_cons (ev_var (i := 5)) (lv_cons (ev_int) (lv_cons (ev_int) (lv_cons (ev_int) (lv_nil)))))) (ev_lst (lv_cons (ev_tup (lv_cons (ev_int) (lv_cons (ev_int) (lv_nil)))) (lv_cons (ev_tup (lv_cons (ev_int) (lv_cons (ev_int) (lv_nil)))) (lv_nil)))) (hm := by with_unfolding_all rfl)) (sv_one (sv_ret (ev_bl))) (sv_nil))
    (sv_one (sv_ret (ev_call0 (i := 45) (F 45) ok.room ok.gu tk Z.m45 Z.k45))))))))))))))))
structure Fns (K : PySem.W.Frag) (ad : Nat → Addr) : Prop where
  f0 : ∃ fd, Fun K "is_integer" "is_integer" st0 (ad 0) fd ∧ Binds K fd ["value"] []
  f1 : ∃ fd, Fun K "is_number" "is_number" st1 (ad 1) fd ∧ Binds K fd ["value"] []
  f2 : ∃ fd, Fun K "wrong_shape" "wrong_shape" st2 (ad 2) fd ∧ Binds K fd ["value"] []
  f3 : ∃ fd, Fun K "size_of" "size_of" st3 (ad 3) fd ∧ Binds K fd ["shape"] []
  f4 : ∃ fd, Fun K "comb" "comb" st4 (ad 4) fd ∧ Binds K fd ["n", "side"] []
  f5 : ∃ fd, Fun K "wrong_sizes" "wrong_sizes" st5 (ad 5) fd ∧ Binds K fd ["shapes"] []
  f6 : ∃ fd, Fun K "wrong_table" "wrong_table" st6 (ad 6) fd ∧ Binds K fd ["value"] []
  f7 : ∃ fd, Fun K "table_size" "table_size" st7 (ad 7) fd ∧ Binds K fd ["table"] []
  f8 : ∃ fd, Fun K "entry" "entry" st8 (ad 8) fd ∧ Binds K fd ["table", "m"] []
  f9 : ∃ fd, Fun K "filled" "filled" st9 (ad 9) fd ∧ Binds K fd ["form", "lumps"] []
  f10 : ∃ fd, Fun K "pressed" "pressed" st10 (ad 10) fd ∧ Binds K fd ["table", "row"] []
  f11 : ∃ fd, Fun K "shape" "shape" st11 (ad 11) fd ∧ Binds K fd ["plan", "n"] []
  f12 : ∃ fd, Fun K "counts" "counts" st12 (ad 12) fd ∧ Binds K fd ["plan", "n"] []
  f13 : ∃ fd, Fun K "widths" "widths" st13 (ad 13) fd ∧ Binds K fd ["plan", "n"] []
  f14 : ∃ fd, Fun K "row_behind" "row_behind" st14 (ad 14) fd ∧ Binds K fd ["plan", "n", "k"] []
  f15 : ∃ fd, Fun K "shape_lumps" "shape_lumps" st15 (ad 15) fd ∧ Binds K fd ["form"] []
  f16 : ∃ fd, Fun K "comb_lumps" "comb_lumps" st16 (ad 16) fd ∧ Binds K fd ["many", "end"] []
  f17 : ∃ fd, Fun K "stretch_lumps" "stretch_lumps" st17 (ad 17) fd ∧ Binds K fd ["table", "row"] []
  f18 : ∃ fd, Fun K "all_lumps" "all_lumps" st18 (ad 18) fd ∧ Binds K fd ["plan", "n"] []
  f19 : ∃ fd, Fun K "comb_parts" "comb_parts" st19 (ad 19) fd ∧ Binds K fd ["one", "other", "end"] []
  f20 : ∃ fd, Fun K "__init__" "Rows.__init__" st20 (ad 20) fd ∧ Binds K fd ["self", "plan", "n"] []
  f21 : ∃ fd, Fun K "places" "Rows.places" st21 (ad 21) fd ∧ Binds K fd ["self", "node"] []
  f22 : ∃ fd, Fun K "stretch" "Rows.stretch" st22 (ad 22) fd ∧ Binds K fd ["self", "level", "number"] []
  f23 : ∃ fd, Fun K "opened" "Rows.opened" st23 (ad 23) fd ∧ Binds K fd ["self", "node"] []
  f24 : ∃ fd, Fun K "root" "Rows.root" st24 (ad 24) fd ∧ Binds K fd ["self"] []
  f25 : ∃ fd, Fun K "parts" "Rows.parts" st25 (ad 25) fd ∧ Binds K fd ["self", "node"] []
  f26 : ∃ fd, Fun K "narrowed" "Rows.narrowed" st26 (ad 26) fd ∧ Binds K fd ["self", "node", "low", "high"] []
  f27 : ∃ fd, Fun K "least" "Rows.least" st27 (ad 27) fd ∧ Binds K fd ["self", "low", "high"] []
  f29 : ∃ fd, Fun K "are_lump_numbers" "are_lump_numbers" st29 (ad 29) fd ∧ Binds K fd ["plan", "n", "i", "j"] []
  f30 : ∃ fd, Fun K "is_lump" "is_lump" st30 (ad 30) fd ∧ Binds K fd ["plan", "n", "i", "j"] []
  f31 : ∃ fd, Fun K "lump_at" "lump_at" st31 (ad 31) fd ∧ Binds K fd ["plan", "n", "path"] []
  f32 : ∃ fd, Fun K "path_of" "path_of" st32 (ad 32) fd ∧ Binds K fd ["plan", "n", "i", "j"] []
  f33 : ∃ fd, Fun K "need_places" "need_places" st33 (ad 33) fd ∧ Binds K fd ["n", "values"] []
  f34 : ∃ fd, Fun K "least_lump" "least_lump" st34 (ad 34) fd ∧ Binds K fd ["plan", "n", "i", "j"] []
  f35 : ∃ fd, Fun K "crossing" "crossing" st35 (ad 35) fd ∧ Binds K fd ["plan", "n", "i", "j"] []
  f36 : ∃ fd, Fun K "depth" "depth" st36 (ad 36) fd ∧ Binds K fd ["plan", "n", "i"] []
  f37 : ∃ fd, Fun K "wrong_member" "wrong_member" st37 (ad 37) fd ∧ Binds K fd ["tables"] []
  f38 : ∃ fd, Fun K "wrong_plan" "wrong_plan" st38 (ad 38) fd ∧ Binds K fd ["tables", "end"] []
  f39 : ∃ fd, Fun K "__init__" "Plan.__init__" st39 (ad 39) fd ∧ Binds K fd ["self", "tables", "end"] []
  f40 : ∃ fd, Fun K "__eq__" "Plan.__eq__" st40 (ad 40) fd ∧ Binds K fd ["self", "other"] []
  f41 : ∃ fd, Fun K "tables" "Plan.tables" st41 (ad 41) fd ∧ Binds K fd ["self"] []
  f42 : ∃ fd, Fun K "end" "Plan.end" st42 (ad 42) fd ∧ Binds K fd ["self"] []
  f43 : ∃ fd, Fun K "stage" "Plan.stage" st43 (ad 43) fd ∧ Binds K fd ["self", "k"] []
  f45 : ∃ fd, Fun K "_law_example_right" "_law_example_right" st45 (ad 45) fd ∧ Binds K fd [] []
  f46 : ∃ fd, Fun K "law" "law" st46 (ad 46) fd ∧ Binds K fd ["_law_script"] []
structure Lms (G : Gd) (base : Heap) (mg : Str → Option Value) (ad : Nat → Addr) : Prop where
  l18 : LamAt G base mg (ad 18) ((("all_lumps" : Str) ++ ".<locals>.") ++ "<lambda>")
set_option maxHeartbeats 4000000 in
theorem fgs {G : Gd} {P : Program} {w : World} {mg : Str → Option Value} {base : Heap} {ad : Nat → Addr} (Z : Wd G.K G.T mg ad) (Y : Fns G.K ad) (L : Lms G base mg ad) : ∀ k i, FG P w G.K mg base (k + 2) (ad i) (spT G (tabOf Prog k i))
  | 0, i => fg_zeroK
  | n + 1, 0 => by
    obtain ⟨fd, F, B⟩ := Y.f0
    exact fg_of (F := ⟨1, 1, d0⟩) (t := tabOf Prog n) F B sc0 rfl rfl (fun _ _ => rfl) fun cdv A outer s H E rm rm1 gu tk hp => dv0 Z (fgs Z Y L n) ⟨rfl, rfl, sc0.nd, rm, rm1, gu⟩ tk hp
  | n + 1, 1 => by
    obtain ⟨fd, F, B⟩ := Y.f1
    exact fg_of (F := ⟨1, 1, d1⟩) (t := tabOf Prog n) F B sc1 rfl rfl (fun _ _ => rfl) fun cdv A outer s H E rm rm1 gu tk hp => dv1 Z (fgs Z Y L n) ⟨rfl, rfl, sc1.nd, rm, rm1, gu⟩ tk hp
  | n + 1, 2 => by
    obtain ⟨fd, F, B⟩ := Y.f2
    exact fg_of (F := ⟨4, 1, d2⟩) (t := tabOf Prog n) F B sc2 rfl rfl (fun _ _ => rfl) fun cdv A outer s H E rm rm1 gu tk hp => dv2 Z (fgs Z Y L n) ⟨rfl, rfl, sc2.nd, rm, rm1, gu⟩ tk hp
  | n + 1, 3 => by
    obtain ⟨fd, F, B⟩ := Y.f3
    exact fg_of (F := ⟨4, 1, d3⟩) (t := tabOf Prog n) F B sc3 rfl rfl (fun _ _ => rfl) fun cdv A outer s H E rm rm1 gu tk hp => dv3 Z (fgs Z Y L n) ⟨rfl, rfl, sc3.nd, rm, rm1, gu⟩ tk hp
  | n + 1, 4 => by
    obtain ⟨fd, F, B⟩ := Y.f4
    exact fg_of (F := ⟨4, 2, d4⟩) (t := tabOf Prog n) F B sc4 rfl rfl (fun _ _ => rfl) fun cdv A outer s H E rm rm1 gu tk hp => dv4 Z (fgs Z Y L n) ⟨rfl, rfl, sc4.nd, rm, rm1, gu⟩ tk hp
  | n + 1, 5 => by
    obtain ⟨fd, F, B⟩ := Y.f5
    exact fg_of (F := ⟨3, 1, d5⟩) (t := tabOf Prog n) F B sc5 rfl rfl (fun _ _ => rfl) fun cdv A outer s H E rm rm1 gu tk hp => dv5 Z (fgs Z Y L n) ⟨rfl, rfl, sc5.nd, rm, rm1, gu⟩ tk hp
  | n + 1, 6 => by
    obtain ⟨fd, F, B⟩ := Y.f6
    exact fg_of (F := ⟨4, 1, d6⟩) (t := tabOf Prog n) F B sc6 rfl rfl (fun _ _ => rfl) fun cdv A outer s H E rm rm1 gu tk hp => dv6 Z (fgs Z Y L n) ⟨rfl, rfl, sc6.nd, rm, rm1, gu⟩ tk hp
  | n + 1, 7 => by
    obtain ⟨fd, F, B⟩ := Y.f7
    exact fg_of (F := ⟨1, 1, d7⟩) (t := tabOf Prog n) F B sc7 rfl rfl (fun _ _ => rfl) fun cdv A outer s H E rm rm1 gu tk hp => dv7 Z (fgs Z Y L n) ⟨rfl, rfl, sc7.nd, rm, rm1, gu⟩ tk hp
  | n + 1, 8 => by
    obtain ⟨fd, F, B⟩ := Y.f8
    exact fg_of (F := ⟨2, 2, d8⟩) (t := tabOf Prog n) F B sc8 rfl rfl (fun _ _ => rfl) fun cdv A outer s H E rm rm1 gu tk hp => dv8 Z (fgs Z Y L n) ⟨rfl, rfl, sc8.nd, rm, rm1, gu⟩ tk hp
  | n + 1, 9 => by
    obtain ⟨fd, F, B⟩ := Y.f9
    exact fg_of (F := ⟨3, 2, d9⟩) (t := tabOf Prog n) F B sc9 rfl rfl (fun _ _ => rfl) fun cdv A outer s H E rm rm1 gu tk hp => dv9 Z (fgs Z Y L n) ⟨rfl, rfl, sc9.nd, rm, rm1, gu⟩ tk hp
  | n + 1, 10 => by
    obtain ⟨fd, F, B⟩ := Y.f10
    exact fg_of (F := ⟨6, 2, d10⟩) (t := tabOf Prog n) F B sc10 rfl rfl (fun _ _ => rfl) fun cdv A outer s H E rm rm1 gu tk hp => dv10 Z (fgs Z Y L n) ⟨rfl, rfl, sc10.nd, rm, rm1, gu⟩ tk hp
  | n + 1, 11 => by
    obtain ⟨fd, F, B⟩ := Y.f11
    exact fg_of (F := ⟨4, 2, d11⟩) (t := tabOf Prog n) F B sc11 rfl rfl (fun _ _ => rfl) fun cdv A outer s H E rm rm1 gu tk hp => dv11 Z (fgs Z Y L n) ⟨rfl, rfl, sc11.nd, rm, rm1, gu⟩ tk hp
  | n + 1, 12 => by
    obtain ⟨fd, F, B⟩ := Y.f12
    exact fg_of (F := ⟨4, 2, d12⟩) (t := tabOf Prog n) F B sc12 rfl rfl (fun _ _ => rfl) fun cdv A outer s H E rm rm1 gu tk hp => dv12 Z (fgs Z Y L n) ⟨rfl, rfl, sc12.nd, rm, rm1, gu⟩ tk hp
  | n + 1, 13 => by
    obtain ⟨fd, F, B⟩ := Y.f13
    exact fg_of (F := ⟨4, 2, d13⟩) (t := tabOf Prog n) F B sc13 rfl rfl (fun _ _ => rfl) fun cdv A outer s H E rm rm1 gu tk hp => dv13 Z (fgs Z Y L n) ⟨rfl, rfl, sc13.nd, rm, rm1, gu⟩ tk hp
  | n + 1, 14 => by
    obtain ⟨fd, F, B⟩ := Y.f14
    exact fg_of (F := ⟨6, 3, d14⟩) (t := tabOf Prog n) F B sc14 rfl rfl (fun _ _ => rfl) fun cdv A outer s H E rm rm1 gu tk hp => dv14 Z (fgs Z Y L n) ⟨rfl, rfl, sc14.nd, rm, rm1, gu⟩ tk hp
  | n + 1, 15 => by
    obtain ⟨fd, F, B⟩ := Y.f15
    exact fg_of (F := ⟨5, 1, d15⟩) (t := tabOf Prog n) F B sc15 rfl rfl (fun _ _ => rfl) fun cdv A outer s H E rm rm1 gu tk hp => dv15 Z (fgs Z Y L n) ⟨rfl, rfl, sc15.nd, rm, rm1, gu⟩ tk hp
  | n + 1, 16 => by
    obtain ⟨fd, F, B⟩ := Y.f16
    exact fg_of (F := ⟨3, 2, d16⟩) (t := tabOf Prog n) F B sc16 rfl rfl (fun _ _ => rfl) fun cdv A outer s H E rm rm1 gu tk hp => dv16 Z (fgs Z Y L n) ⟨rfl, rfl, sc16.nd, rm, rm1, gu⟩ tk hp
  | n + 1, 17 => by
    obtain ⟨fd, F, B⟩ := Y.f17
    exact fg_of (F := ⟨8, 2, d17⟩) (t := tabOf Prog n) F B sc17 rfl rfl (fun _ _ => rfl) fun cdv A outer s H E rm rm1 gu tk hp => dv17 Z (fgs Z Y L n) ⟨rfl, rfl, sc17.nd, rm, rm1, gu⟩ tk hp
  | n + 1, 18 => by
    obtain ⟨fd, F, B⟩ := Y.f18
    exact fg_ofC (F := ⟨8, 2, d18⟩) (t := tabOf Prog n) F B sc18 rfl rfl (fun _ _ => rfl) fun cdv hc A outer s H E rm rm1 gu tk hp => by
      obtain ⟨cc, PP, lam⟩ := L.l18.ok (X := X18 P w G.K mg base (ad 18) cdv A outer s H E) hc
      exact dv18 Z (fgs Z Y L n) ⟨rfl, rfl, sc18.nd, rm, rm1, gu⟩ tk hp lam
  | n + 1, 19 => by
    obtain ⟨fd, F, B⟩ := Y.f19
    exact fg_of (F := ⟨3, 3, d19⟩) (t := tabOf Prog n) F B sc19 rfl rfl (fun _ _ => rfl) fun cdv A outer s H E rm rm1 gu tk hp => dv19 Z (fgs Z Y L n) ⟨rfl, rfl, sc19.nd, rm, rm1, gu⟩ tk hp
  | n + 1, 20 => by
    obtain ⟨fd, F, B⟩ := Y.f20
    exact fg_of (F := ⟨3, 3, d20⟩) (t := tabOf Prog n) F B sc20 rfl rfl (fun _ _ => rfl) fun cdv A outer s H E rm rm1 gu tk hp => dv20 Z (fgs Z Y L n) ⟨rfl, rfl, sc20.nd, rm, rm1, gu⟩ tk hp
  | n + 1, 21 => by
    obtain ⟨fd, F, B⟩ := Y.f21
    exact fg_of (F := ⟨6, 2, d21⟩) (t := tabOf Prog n) F B sc21 rfl rfl (fun _ _ => rfl) fun cdv A outer s H E rm rm1 gu tk hp => dv21 Z (fgs Z Y L n) ⟨rfl, rfl, sc21.nd, rm, rm1, gu⟩ tk hp
  | n + 1, 22 => by
    obtain ⟨fd, F, B⟩ := Y.f22
    exact fg_of (F := ⟨6, 3, d22⟩) (t := tabOf Prog n) F B sc22 rfl rfl (fun _ _ => rfl) fun cdv A outer s H E rm rm1 gu tk hp => dv22 Z (fgs Z Y L n) ⟨rfl, rfl, sc22.nd, rm, rm1, gu⟩ tk hp
  | n + 1, 23 => by
    obtain ⟨fd, F, B⟩ := Y.f23
    exact fg_of (F := ⟨8, 2, d23⟩) (t := tabOf Prog n) F B sc23 rfl rfl (fun _ _ => rfl) fun cdv A outer s H E rm rm1 gu tk hp => dv23 Z (fgs Z Y L n) ⟨rfl, rfl, sc23.nd, rm, rm1, gu⟩ tk hp
  | n + 1, 24 => by
    obtain ⟨fd, F, B⟩ := Y.f24
    exact fg_of (F := ⟨1, 1, d24⟩) (t := tabOf Prog n) F B sc24 rfl rfl (fun _ _ => rfl) fun cdv A outer s H E rm rm1 gu tk hp => dv24 Z (fgs Z Y L n) ⟨rfl, rfl, sc24.nd, rm, rm1, gu⟩ tk hp
  | n + 1, 25 => by
    obtain ⟨fd, F, B⟩ := Y.f25
    exact fg_of (F := ⟨10, 2, d25⟩) (t := tabOf Prog n) F B sc25 rfl rfl (fun _ _ => rfl) fun cdv A outer s H E rm rm1 gu tk hp => dv25 Z (fgs Z Y L n) ⟨rfl, rfl, sc25.nd, rm, rm1, gu⟩ tk hp
  | n + 1, 26 => by
    obtain ⟨fd, F, B⟩ := Y.f26
    exact fg_of (F := ⟨9, 4, d26⟩) (t := tabOf Prog n) F B sc26 rfl rfl (fun _ _ => rfl) fun cdv A outer s H E rm rm1 gu tk hp => dv26 Z (fgs Z Y L n) ⟨rfl, rfl, sc26.nd, rm, rm1, gu⟩ tk hp
  | n + 1, 27 => by
    obtain ⟨fd, F, B⟩ := Y.f27
    exact fg_of (F := ⟨8, 3, d27⟩) (t := tabOf Prog n) F B sc27 rfl rfl (fun _ _ => rfl) fun cdv A outer s H E rm rm1 gu tk hp => dv27 Z (fgs Z Y L n) ⟨rfl, rfl, sc27.nd, rm, rm1, gu⟩ tk hp
  | n + 1, 28 => fg_mk (c := 1) (np := 2) Z.mk1 Z.t1 (fgs Z Y L n 20) fun ds M => mk_out (Q := Prog) (k := n) (i := 28) (c := 1) (ini := 20) (np := 2) (al := lCons (eVar 2) (lCons (eVar 0) (lCons (eVar 1) (lNil)))) rfl (fun ds r M hl => match ds, hl with
    | [_, _], _ => rfl) ds M
  | n + 1, 29 => by
    obtain ⟨fd, F, B⟩ := Y.f29
    exact fg_of (F := ⟨8, 4, d29⟩) (t := tabOf Prog n) F B sc29 rfl rfl (fun _ _ => rfl) fun cdv A outer s H E rm rm1 gu tk hp => dv29 Z (fgs Z Y L n) ⟨rfl, rfl, sc29.nd, rm, rm1, gu⟩ tk hp
  | n + 1, 30 => by
    obtain ⟨fd, F, B⟩ := Y.f30
    exact fg_of (F := ⟨4, 4, d30⟩) (t := tabOf Prog n) F B sc30 rfl rfl (fun _ _ => rfl) fun cdv A outer s H E rm rm1 gu tk hp => dv30 Z (fgs Z Y L n) ⟨rfl, rfl, sc30.nd, rm, rm1, gu⟩ tk hp
  | n + 1, 31 => by
    obtain ⟨fd, F, B⟩ := Y.f31
    exact fg_of (F := ⟨7, 3, d31⟩) (t := tabOf Prog n) F B sc31 rfl rfl (fun _ _ => rfl) fun cdv A outer s H E rm rm1 gu tk hp => dv31 Z (fgs Z Y L n) ⟨rfl, rfl, sc31.nd, rm, rm1, gu⟩ tk hp
  | n + 1, 32 => by
    obtain ⟨fd, F, B⟩ := Y.f32
    exact fg_of (F := ⟨9, 4, d32⟩) (t := tabOf Prog n) F B sc32 rfl rfl (fun _ _ => rfl) fun cdv A outer s H E rm rm1 gu tk hp => dv32 Z (fgs Z Y L n) ⟨rfl, rfl, sc32.nd, rm, rm1, gu⟩ tk hp
  | n + 1, 33 => by
    obtain ⟨fd, F, B⟩ := Y.f33
    exact fg_of (F := ⟨3, 2, d33⟩) (t := tabOf Prog n) F B sc33 rfl rfl (fun _ _ => rfl) fun cdv A outer s H E rm rm1 gu tk hp => dv33 Z (fgs Z Y L n) ⟨rfl, rfl, sc33.nd, rm, rm1, gu⟩ tk hp
  | n + 1, 34 => by
    obtain ⟨fd, F, B⟩ := Y.f34
    exact fg_of (F := ⟨5, 4, d34⟩) (t := tabOf Prog n) F B sc34 rfl rfl (fun _ _ => rfl) fun cdv A outer s H E rm rm1 gu tk hp => dv34 Z (fgs Z Y L n) ⟨rfl, rfl, sc34.nd, rm, rm1, gu⟩ tk hp
  | n + 1, 35 => by
    obtain ⟨fd, F, B⟩ := Y.f35
    exact fg_of (F := ⟨8, 4, d35⟩) (t := tabOf Prog n) F B sc35 rfl rfl (fun _ _ => rfl) fun cdv A outer s H E rm rm1 gu tk hp => dv35 Z (fgs Z Y L n) ⟨rfl, rfl, sc35.nd, rm, rm1, gu⟩ tk hp
  | n + 1, 36 => by
    obtain ⟨fd, F, B⟩ := Y.f36
    exact fg_of (F := ⟨11, 3, d36⟩) (t := tabOf Prog n) F B sc36 rfl rfl (fun _ _ => rfl) fun cdv A outer s H E rm rm1 gu tk hp => dv36 Z (fgs Z Y L n) ⟨rfl, rfl, sc36.nd, rm, rm1, gu⟩ tk hp
  | n + 1, 37 => by
    obtain ⟨fd, F, B⟩ := Y.f37
    exact fg_of (F := ⟨4, 1, d37⟩) (t := tabOf Prog n) F B sc37 rfl rfl (fun _ _ => rfl) fun cdv A outer s H E rm rm1 gu tk hp => dv37 Z (fgs Z Y L n) ⟨rfl, rfl, sc37.nd, rm, rm1, gu⟩ tk hp
  | n + 1, 38 => by
    obtain ⟨fd, F, B⟩ := Y.f38
    exact fg_of (F := ⟨3, 2, d38⟩) (t := tabOf Prog n) F B sc38 rfl rfl (fun _ _ => rfl) fun cdv A outer s H E rm rm1 gu tk hp => dv38 Z (fgs Z Y L n) ⟨rfl, rfl, sc38.nd, rm, rm1, gu⟩ tk hp
  | n + 1, 39 => by
    obtain ⟨fd, F, B⟩ := Y.f39
    exact fg_of (F := ⟨4, 3, d39⟩) (t := tabOf Prog n) F B sc39 rfl rfl (fun _ _ => rfl) fun cdv A outer s H E rm rm1 gu tk hp => dv39 Z (fgs Z Y L n) ⟨rfl, rfl, sc39.nd, rm, rm1, gu⟩ tk hp
  | n + 1, 40 => by
    obtain ⟨fd, F, B⟩ := Y.f40
    exact fg_of (F := ⟨2, 2, d40⟩) (t := tabOf Prog n) F B sc40 rfl rfl (fun _ _ => rfl) fun cdv A outer s H E rm rm1 gu tk hp => dv40 Z (fgs Z Y L n) ⟨rfl, rfl, sc40.nd, rm, rm1, gu⟩ tk hp
  | n + 1, 41 => by
    obtain ⟨fd, F, B⟩ := Y.f41
    exact fg_of (F := ⟨1, 1, d41⟩) (t := tabOf Prog n) F B sc41 rfl rfl (fun _ _ => rfl) fun cdv A outer s H E rm rm1 gu tk hp => dv41 Z (fgs Z Y L n) ⟨rfl, rfl, sc41.nd, rm, rm1, gu⟩ tk hp
  | n + 1, 42 => by
    obtain ⟨fd, F, B⟩ := Y.f42
    exact fg_of (F := ⟨1, 1, d42⟩) (t := tabOf Prog n) F B sc42 rfl rfl (fun _ _ => rfl) fun cdv A outer s H E rm rm1 gu tk hp => dv42 Z (fgs Z Y L n) ⟨rfl, rfl, sc42.nd, rm, rm1, gu⟩ tk hp
  | n + 1, 43 => by
    obtain ⟨fd, F, B⟩ := Y.f43
    exact fg_of (F := ⟨2, 2, d43⟩) (t := tabOf Prog n) F B sc43 rfl rfl (fun _ _ => rfl) fun cdv A outer s H E rm rm1 gu tk hp => dv43 Z (fgs Z Y L n) ⟨rfl, rfl, sc43.nd, rm, rm1, gu⟩ tk hp
  | n + 1, 44 => fg_mk (c := 0) (np := 2) Z.mk0 Z.t0 (fgs Z Y L n 39) fun ds M => mk_out (Q := Prog) (k := n) (i := 44) (c := 0) (ini := 39) (np := 2) (al := lCons (eVar 2) (lCons (eVar 0) (lCons (eVar 1) (lNil)))) rfl (fun ds r M hl => match ds, hl with
    | [_, _], _ => rfl) ds M
  | n + 1, 45 => by
    obtain ⟨fd, F, B⟩ := Y.f45
    exact fg_of (F := ⟨5, 0, d45⟩) (t := tabOf Prog n) F B sc45 rfl rfl (fun _ _ => rfl) fun cdv A outer s H E rm rm1 gu tk hp => dv45 Z (fgs Z Y L n) ⟨rfl, rfl, sc45.nd, rm, rm1, gu⟩ tk hp
  | n + 1, 46 => by
    obtain ⟨fd, F, B⟩ := Y.f46
    exact fg_of (F := ⟨13, 1, d46⟩) (t := tabOf Prog n) F B sc46 rfl rfl (fun _ _ => rfl) fun cdv A outer s H E rm rm1 gu tk hp => dv46 Z (fgs Z Y L n) ⟨rfl, rfl, sc46.nd, rm, rm1, gu⟩ tk hp
  | n + 1, i + 47 => fun A outer s H us vs Q E _ _ _ _ ⟨M, rho, ds, _, _, q⟩ => q.elim
theorem tbu18 {PT18 : Addr} {q18 : Str} : ∀ p ∈ [(PT18, q18)], p.1 = PT18 → p.2 = q18 := by
  intro p hp e
  simp only [List.mem_cons, List.not_mem_nil, or_false] at hp
  rcases hp with rfl
  · rfl
set_option maxHeartbeats 4000000 in
theorem all_mk {l : PySem.W.OpenLaw} {w : World} {K : PySem.W.Frag} {h : Heap} {mg : Str → Option Value} {fa f0 f1 f2 f3 f4 f5 f6 f7 f8 f9 f10 f11 f12 f13 f14 f15 f16 f17 f18 f19 f20 f21 f22 f23 f24 f25 f26 f27 f28 f29 f30 f31 f32 f33 f34 f35 f36 f37 f38 f39 f40 f41 f42 f43 f44 f45 f46 : Addr} (X : K.In h) (G : h.Ns mainGlobals mg) (hfa : mg "law" = some (.ref fa))
    {q : Program}
    {cT18 PT18 : Addr}
    {od0 an0 : Option Addr} {sl0 : Array (Option Value)} {oc0 kV0 dc0 pm0 cd0 ct0 : Value}
    (a0 : PySem.W.nsIn K mainGlobals "is_integer" = some (some (.ref f0))) (l0 : K.lookup f0 = some ⟨oc0, od0, .func (PySem.W.fnOf "is_integer" "is_integer" (defArgs st0) (defBody st0) (defScope st0) .none kV0 dc0 pm0 an0 cd0 ct0), sl0⟩) (c0 : PySem.W.codeIn K cd0 "is_integer" = true) (k0 : PySem.W.keepIn K (.ref f0) = true)
    {od1 an1 : Option Addr} {sl1 : Array (Option Value)} {oc1 kV1 dc1 pm1 cd1 ct1 : Value}
    (a1 : PySem.W.nsIn K mainGlobals "is_number" = some (some (.ref f1))) (l1 : K.lookup f1 = some ⟨oc1, od1, .func (PySem.W.fnOf "is_number" "is_number" (defArgs st1) (defBody st1) (defScope st1) .none kV1 dc1 pm1 an1 cd1 ct1), sl1⟩) (c1 : PySem.W.codeIn K cd1 "is_number" = true) (k1 : PySem.W.keepIn K (.ref f1) = true)
    {od2 an2 : Option Addr} {sl2 : Array (Option Value)} {oc2 kV2 dc2 pm2 cd2 ct2 : Value}
    (a2 : PySem.W.nsIn K mainGlobals "wrong_shape" = some (some (.ref f2))) (l2 : K.lookup f2 = some ⟨oc2, od2, .func (PySem.W.fnOf "wrong_shape" "wrong_shape" (defArgs st2) (defBody st2) (defScope st2) .none kV2 dc2 pm2 an2 cd2 ct2), sl2⟩) (c2 : PySem.W.codeIn K cd2 "wrong_shape" = true) (k2 : PySem.W.keepIn K (.ref f2) = true)
    {od3 an3 : Option Addr} {sl3 : Array (Option Value)} {oc3 kV3 dc3 pm3 cd3 ct3 : Value}
    (a3 : PySem.W.nsIn K mainGlobals "size_of" = some (some (.ref f3))) (l3 : K.lookup f3 = some ⟨oc3, od3, .func (PySem.W.fnOf "size_of" "size_of" (defArgs st3) (defBody st3) (defScope st3) .none kV3 dc3 pm3 an3 cd3 ct3), sl3⟩) (c3 : PySem.W.codeIn K cd3 "size_of" = true) (k3 : PySem.W.keepIn K (.ref f3) = true)
    {od4 an4 : Option Addr} {sl4 : Array (Option Value)} {oc4 kV4 dc4 pm4 cd4 ct4 : Value}
    (a4 : PySem.W.nsIn K mainGlobals "comb" = some (some (.ref f4))) (l4 : K.lookup f4 = some ⟨oc4, od4, .func (PySem.W.fnOf "comb" "comb" (defArgs st4) (defBody st4) (defScope st4) .none kV4 dc4 pm4 an4 cd4 ct4), sl4⟩) (c4 : PySem.W.codeIn K cd4 "comb" = true) (k4 : PySem.W.keepIn K (.ref f4) = true)
    {od5 an5 : Option Addr} {sl5 : Array (Option Value)} {oc5 kV5 dc5 pm5 cd5 ct5 : Value}
    (a5 : PySem.W.nsIn K mainGlobals "wrong_sizes" = some (some (.ref f5))) (l5 : K.lookup f5 = some ⟨oc5, od5, .func (PySem.W.fnOf "wrong_sizes" "wrong_sizes" (defArgs st5) (defBody st5) (defScope st5) .none kV5 dc5 pm5 an5 cd5 ct5), sl5⟩) (c5 : PySem.W.codeIn K cd5 "wrong_sizes" = true) (k5 : PySem.W.keepIn K (.ref f5) = true)
    {od6 an6 : Option Addr} {sl6 : Array (Option Value)} {oc6 kV6 dc6 pm6 cd6 ct6 : Value}
    (a6 : PySem.W.nsIn K mainGlobals "wrong_table" = some (some (.ref f6))) (l6 : K.lookup f6 = some ⟨oc6, od6, .func (PySem.W.fnOf "wrong_table" "wrong_table" (defArgs st6) (defBody st6) (defScope st6) .none kV6 dc6 pm6 an6 cd6 ct6), sl6⟩) (c6 : PySem.W.codeIn K cd6 "wrong_table" = true) (k6 : PySem.W.keepIn K (.ref f6) = true)
    {od7 an7 : Option Addr} {sl7 : Array (Option Value)} {oc7 kV7 dc7 pm7 cd7 ct7 : Value}
    (a7 : PySem.W.nsIn K mainGlobals "table_size" = some (some (.ref f7))) (l7 : K.lookup f7 = some ⟨oc7, od7, .func (PySem.W.fnOf "table_size" "table_size" (defArgs st7) (defBody st7) (defScope st7) .none kV7 dc7 pm7 an7 cd7 ct7), sl7⟩) (c7 : PySem.W.codeIn K cd7 "table_size" = true) (k7 : PySem.W.keepIn K (.ref f7) = true)
    {od8 an8 : Option Addr} {sl8 : Array (Option Value)} {oc8 kV8 dc8 pm8 cd8 ct8 : Value}
    (a8 : PySem.W.nsIn K mainGlobals "entry" = some (some (.ref f8))) (l8 : K.lookup f8 = some ⟨oc8, od8, .func (PySem.W.fnOf "entry" "entry" (defArgs st8) (defBody st8) (defScope st8) .none kV8 dc8 pm8 an8 cd8 ct8), sl8⟩) (c8 : PySem.W.codeIn K cd8 "entry" = true) (k8 : PySem.W.keepIn K (.ref f8) = true)
    {od9 an9 : Option Addr} {sl9 : Array (Option Value)} {oc9 kV9 dc9 pm9 cd9 ct9 : Value}
    (a9 : PySem.W.nsIn K mainGlobals "filled" = some (some (.ref f9))) (l9 : K.lookup f9 = some ⟨oc9, od9, .func (PySem.W.fnOf "filled" "filled" (defArgs st9) (defBody st9) (defScope st9) .none kV9 dc9 pm9 an9 cd9 ct9), sl9⟩) (c9 : PySem.W.codeIn K cd9 "filled" = true) (k9 : PySem.W.keepIn K (.ref f9) = true)
    {od10 an10 : Option Addr} {sl10 : Array (Option Value)} {oc10 kV10 dc10 pm10 cd10 ct10 : Value}
    (a10 : PySem.W.nsIn K mainGlobals "pressed" = some (some (.ref f10))) (l10 : K.lookup f10 = some ⟨oc10, od10, .func (PySem.W.fnOf "pressed" "pressed" (defArgs st10) (defBody st10) (defScope st10) .none kV10 dc10 pm10 an10 cd10 ct10), sl10⟩) (c10 : PySem.W.codeIn K cd10 "pressed" = true) (k10 : PySem.W.keepIn K (.ref f10) = true)
    {od11 an11 : Option Addr} {sl11 : Array (Option Value)} {oc11 kV11 dc11 pm11 cd11 ct11 : Value}
    (a11 : PySem.W.nsIn K mainGlobals "shape" = some (some (.ref f11))) (l11 : K.lookup f11 = some ⟨oc11, od11, .func (PySem.W.fnOf "shape" "shape" (defArgs st11) (defBody st11) (defScope st11) .none kV11 dc11 pm11 an11 cd11 ct11), sl11⟩) (c11 : PySem.W.codeIn K cd11 "shape" = true) (k11 : PySem.W.keepIn K (.ref f11) = true)
    {od12 an12 : Option Addr} {sl12 : Array (Option Value)} {oc12 kV12 dc12 pm12 cd12 ct12 : Value}
    (a12 : PySem.W.nsIn K mainGlobals "counts" = some (some (.ref f12))) (l12 : K.lookup f12 = some ⟨oc12, od12, .func (PySem.W.fnOf "counts" "counts" (defArgs st12) (defBody st12) (defScope st12) .none kV12 dc12 pm12 an12 cd12 ct12), sl12⟩) (c12 : PySem.W.codeIn K cd12 "counts" = true) (k12 : PySem.W.keepIn K (.ref f12) = true)
    {od13 an13 : Option Addr} {sl13 : Array (Option Value)} {oc13 kV13 dc13 pm13 cd13 ct13 : Value}
    (a13 : PySem.W.nsIn K mainGlobals "widths" = some (some (.ref f13))) (l13 : K.lookup f13 = some ⟨oc13, od13, .func (PySem.W.fnOf "widths" "widths" (defArgs st13) (defBody st13) (defScope st13) .none kV13 dc13 pm13 an13 cd13 ct13), sl13⟩) (c13 : PySem.W.codeIn K cd13 "widths" = true) (k13 : PySem.W.keepIn K (.ref f13) = true)
    {od14 an14 : Option Addr} {sl14 : Array (Option Value)} {oc14 kV14 dc14 pm14 cd14 ct14 : Value}
    (a14 : PySem.W.nsIn K mainGlobals "row_behind" = some (some (.ref f14))) (l14 : K.lookup f14 = some ⟨oc14, od14, .func (PySem.W.fnOf "row_behind" "row_behind" (defArgs st14) (defBody st14) (defScope st14) .none kV14 dc14 pm14 an14 cd14 ct14), sl14⟩) (c14 : PySem.W.codeIn K cd14 "row_behind" = true) (k14 : PySem.W.keepIn K (.ref f14) = true)
    {od15 an15 : Option Addr} {sl15 : Array (Option Value)} {oc15 kV15 dc15 pm15 cd15 ct15 : Value}
    (a15 : PySem.W.nsIn K mainGlobals "shape_lumps" = some (some (.ref f15))) (l15 : K.lookup f15 = some ⟨oc15, od15, .func (PySem.W.fnOf "shape_lumps" "shape_lumps" (defArgs st15) (defBody st15) (defScope st15) .none kV15 dc15 pm15 an15 cd15 ct15), sl15⟩) (c15 : PySem.W.codeIn K cd15 "shape_lumps" = true) (k15 : PySem.W.keepIn K (.ref f15) = true)
    {od16 an16 : Option Addr} {sl16 : Array (Option Value)} {oc16 kV16 dc16 pm16 cd16 ct16 : Value}
    (a16 : PySem.W.nsIn K mainGlobals "comb_lumps" = some (some (.ref f16))) (l16 : K.lookup f16 = some ⟨oc16, od16, .func (PySem.W.fnOf "comb_lumps" "comb_lumps" (defArgs st16) (defBody st16) (defScope st16) .none kV16 dc16 pm16 an16 cd16 ct16), sl16⟩) (c16 : PySem.W.codeIn K cd16 "comb_lumps" = true) (k16 : PySem.W.keepIn K (.ref f16) = true)
    {od17 an17 : Option Addr} {sl17 : Array (Option Value)} {oc17 kV17 dc17 pm17 cd17 ct17 : Value}
    (a17 : PySem.W.nsIn K mainGlobals "stretch_lumps" = some (some (.ref f17))) (l17 : K.lookup f17 = some ⟨oc17, od17, .func (PySem.W.fnOf "stretch_lumps" "stretch_lumps" (defArgs st17) (defBody st17) (defScope st17) .none kV17 dc17 pm17 an17 cd17 ct17), sl17⟩) (c17 : PySem.W.codeIn K cd17 "stretch_lumps" = true) (k17 : PySem.W.keepIn K (.ref f17) = true)
    {od18 an18 : Option Addr} {sl18 : Array (Option Value)} {oc18 kV18 dc18 pm18 ct18 : Value}
    (a18 : PySem.W.nsIn K mainGlobals "all_lumps" = some (some (.ref f18))) (l18 : K.lookup f18 = some ⟨oc18, od18, .func (PySem.W.fnOf "all_lumps" "all_lumps" (defArgs st18) (defBody st18) (defScope st18) .none kV18 dc18 pm18 an18 (.ref cT18) ct18), sl18⟩) (c18 : PySem.W.codeIn K (.ref cT18) "all_lumps" = true) (k18 : PySem.W.keepIn K (.ref f18) = true)
    {od19 an19 : Option Addr} {sl19 : Array (Option Value)} {oc19 kV19 dc19 pm19 cd19 ct19 : Value}
    (a19 : PySem.W.nsIn K mainGlobals "comb_parts" = some (some (.ref f19))) (l19 : K.lookup f19 = some ⟨oc19, od19, .func (PySem.W.fnOf "comb_parts" "comb_parts" (defArgs st19) (defBody st19) (defScope st19) .none kV19 dc19 pm19 an19 cd19 ct19), sl19⟩) (c19 : PySem.W.codeIn K cd19 "comb_parts" = true) (k19 : PySem.W.keepIn K (.ref f19) = true)
    {od20 an20 : Option Addr} {sl20 : Array (Option Value)} {oc20 kV20 dc20 pm20 cd20 ct20 : Value}
    (a20 : PySem.W.findIn K (.ref f28) "__init__" = some (some (.ref f20))) (l20 : K.lookup f20 = some ⟨oc20, od20, .func (PySem.W.fnOf "__init__" "Rows.__init__" (defArgs st20) (defBody st20) (defScope st20) .none kV20 dc20 pm20 an20 cd20 ct20), sl20⟩) (c20 : PySem.W.codeIn K cd20 "Rows.__init__" = true) (k20 : PySem.W.keepIn K (.ref f20) = true) (q20 : PySem.W.isFn K (.ref f20) = true)
    {od21 an21 : Option Addr} {sl21 : Array (Option Value)} {oc21 kV21 dc21 pm21 cd21 ct21 : Value}
    (a21 : PySem.W.findIn K (.ref f28) "places" = some (some (.ref f21))) (l21 : K.lookup f21 = some ⟨oc21, od21, .func (PySem.W.fnOf "places" "Rows.places" (defArgs st21) (defBody st21) (defScope st21) .none kV21 dc21 pm21 an21 cd21 ct21), sl21⟩) (c21 : PySem.W.codeIn K cd21 "Rows.places" = true) (k21 : PySem.W.keepIn K (.ref f21) = true) (q21 : PySem.W.isFn K (.ref f21) = true)
    {od22 an22 : Option Addr} {sl22 : Array (Option Value)} {oc22 kV22 dc22 pm22 cd22 ct22 : Value}
    (a22 : PySem.W.findIn K (.ref f28) "stretch" = some (some (.ref f22))) (l22 : K.lookup f22 = some ⟨oc22, od22, .func (PySem.W.fnOf "stretch" "Rows.stretch" (defArgs st22) (defBody st22) (defScope st22) .none kV22 dc22 pm22 an22 cd22 ct22), sl22⟩) (c22 : PySem.W.codeIn K cd22 "Rows.stretch" = true) (k22 : PySem.W.keepIn K (.ref f22) = true) (q22 : PySem.W.isFn K (.ref f22) = true)
    {od23 an23 : Option Addr} {sl23 : Array (Option Value)} {oc23 kV23 dc23 pm23 cd23 ct23 : Value}
    (a23 : PySem.W.findIn K (.ref f28) "opened" = some (some (.ref f23))) (l23 : K.lookup f23 = some ⟨oc23, od23, .func (PySem.W.fnOf "opened" "Rows.opened" (defArgs st23) (defBody st23) (defScope st23) .none kV23 dc23 pm23 an23 cd23 ct23), sl23⟩) (c23 : PySem.W.codeIn K cd23 "Rows.opened" = true) (k23 : PySem.W.keepIn K (.ref f23) = true) (q23 : PySem.W.isFn K (.ref f23) = true)
    {od24 an24 : Option Addr} {sl24 : Array (Option Value)} {oc24 kV24 dc24 pm24 cd24 ct24 : Value}
    (a24 : PySem.W.findIn K (.ref f28) "root" = some (some (.ref f24))) (l24 : K.lookup f24 = some ⟨oc24, od24, .func (PySem.W.fnOf "root" "Rows.root" (defArgs st24) (defBody st24) (defScope st24) .none kV24 dc24 pm24 an24 cd24 ct24), sl24⟩) (c24 : PySem.W.codeIn K cd24 "Rows.root" = true) (k24 : PySem.W.keepIn K (.ref f24) = true) (q24 : PySem.W.isFn K (.ref f24) = true)
    {od25 an25 : Option Addr} {sl25 : Array (Option Value)} {oc25 kV25 dc25 pm25 cd25 ct25 : Value}
    (a25 : PySem.W.findIn K (.ref f28) "parts" = some (some (.ref f25))) (l25 : K.lookup f25 = some ⟨oc25, od25, .func (PySem.W.fnOf "parts" "Rows.parts" (defArgs st25) (defBody st25) (defScope st25) .none kV25 dc25 pm25 an25 cd25 ct25), sl25⟩) (c25 : PySem.W.codeIn K cd25 "Rows.parts" = true) (k25 : PySem.W.keepIn K (.ref f25) = true) (q25 : PySem.W.isFn K (.ref f25) = true)
    {od26 an26 : Option Addr} {sl26 : Array (Option Value)} {oc26 kV26 dc26 pm26 cd26 ct26 : Value}
    (a26 : PySem.W.findIn K (.ref f28) "narrowed" = some (some (.ref f26))) (l26 : K.lookup f26 = some ⟨oc26, od26, .func (PySem.W.fnOf "narrowed" "Rows.narrowed" (defArgs st26) (defBody st26) (defScope st26) .none kV26 dc26 pm26 an26 cd26 ct26), sl26⟩) (c26 : PySem.W.codeIn K cd26 "Rows.narrowed" = true) (k26 : PySem.W.keepIn K (.ref f26) = true) (q26 : PySem.W.isFn K (.ref f26) = true)
    {od27 an27 : Option Addr} {sl27 : Array (Option Value)} {oc27 kV27 dc27 pm27 cd27 ct27 : Value}
    (a27 : PySem.W.findIn K (.ref f28) "least" = some (some (.ref f27))) (l27 : K.lookup f27 = some ⟨oc27, od27, .func (PySem.W.fnOf "least" "Rows.least" (defArgs st27) (defBody st27) (defScope st27) .none kV27 dc27 pm27 an27 cd27 ct27), sl27⟩) (c27 : PySem.W.codeIn K cd27 "Rows.least" = true) (k27 : PySem.W.keepIn K (.ref f27) = true) (q27 : PySem.W.isFn K (.ref f27) = true)
    (a28 : PySem.W.nsIn K mainGlobals "Rows" = some (some (.ref f28))) (k28 : PySem.W.keepIn K (.ref f28) = true)
    (u28 : PySem.W.plainGet K f28 Str.empty = true) (v28 : PySem.W.hasDictIn K f28 = true) (w28 : PySem.W.plainOver K f28 = true) (x28 : PySem.W.findIn K (.ref f28) "__setattr__" = some (some (.builtin "object.__setattr__"))) (y28 : PySem.W.makesIn K f28 = true)
    (n28_plan : PySem.W.findIn K (.ref f28) "plan" = some none)
    (n28_many : PySem.W.findIn K (.ref f28) "many" = some none)
    (n28_width : PySem.W.findIn K (.ref f28) "width" = some none)
    (i128 : PySem.W.findIn K (.ref f28) "__class__" = some (some (.builtin "object.__class__"))) (i228 : PySem.W.specialIn K (.builtin "object.__class__") "__get__" = some (some (.builtin "getset_descriptor.__get__"))) (i328 : PySem.W.takesIn K (.builtin "object.__class__") = some true) (i428 : PySem.W.mroIn K f28 (.type "object") = some true) (e128 : PySem.W.kitOne K (.ref f28) (.type "int") = some false) (e228 : PySem.W.kitOne K (.ref f28) (.type "bool") = some false) (e328 : PySem.W.kitOne K (.ref f28) (.type "str") = some false) (e428 : PySem.W.kitOne K (.ref f28) (.type "tuple") = some false) (e528 : PySem.W.kitOne K (.ref f28) (.type "list") = some false) (e628 : PySem.W.kitOne K (.ref f28) (.type "dict") = some false)
    {od29 an29 : Option Addr} {sl29 : Array (Option Value)} {oc29 kV29 dc29 pm29 cd29 ct29 : Value}
    (a29 : PySem.W.nsIn K mainGlobals "are_lump_numbers" = some (some (.ref f29))) (l29 : K.lookup f29 = some ⟨oc29, od29, .func (PySem.W.fnOf "are_lump_numbers" "are_lump_numbers" (defArgs st29) (defBody st29) (defScope st29) .none kV29 dc29 pm29 an29 cd29 ct29), sl29⟩) (c29 : PySem.W.codeIn K cd29 "are_lump_numbers" = true) (k29 : PySem.W.keepIn K (.ref f29) = true)
    {od30 an30 : Option Addr} {sl30 : Array (Option Value)} {oc30 kV30 dc30 pm30 cd30 ct30 : Value}
    (a30 : PySem.W.nsIn K mainGlobals "is_lump" = some (some (.ref f30))) (l30 : K.lookup f30 = some ⟨oc30, od30, .func (PySem.W.fnOf "is_lump" "is_lump" (defArgs st30) (defBody st30) (defScope st30) .none kV30 dc30 pm30 an30 cd30 ct30), sl30⟩) (c30 : PySem.W.codeIn K cd30 "is_lump" = true) (k30 : PySem.W.keepIn K (.ref f30) = true)
    {od31 an31 : Option Addr} {sl31 : Array (Option Value)} {oc31 kV31 dc31 pm31 cd31 ct31 : Value}
    (a31 : PySem.W.nsIn K mainGlobals "lump_at" = some (some (.ref f31))) (l31 : K.lookup f31 = some ⟨oc31, od31, .func (PySem.W.fnOf "lump_at" "lump_at" (defArgs st31) (defBody st31) (defScope st31) .none kV31 dc31 pm31 an31 cd31 ct31), sl31⟩) (c31 : PySem.W.codeIn K cd31 "lump_at" = true) (k31 : PySem.W.keepIn K (.ref f31) = true)
    {od32 an32 : Option Addr} {sl32 : Array (Option Value)} {oc32 kV32 dc32 pm32 cd32 ct32 : Value}
    (a32 : PySem.W.nsIn K mainGlobals "path_of" = some (some (.ref f32))) (l32 : K.lookup f32 = some ⟨oc32, od32, .func (PySem.W.fnOf "path_of" "path_of" (defArgs st32) (defBody st32) (defScope st32) .none kV32 dc32 pm32 an32 cd32 ct32), sl32⟩) (c32 : PySem.W.codeIn K cd32 "path_of" = true) (k32 : PySem.W.keepIn K (.ref f32) = true)
    {od33 an33 : Option Addr} {sl33 : Array (Option Value)} {oc33 kV33 dc33 pm33 cd33 ct33 : Value}
    (a33 : PySem.W.nsIn K mainGlobals "need_places" = some (some (.ref f33))) (l33 : K.lookup f33 = some ⟨oc33, od33, .func (PySem.W.fnOf "need_places" "need_places" (defArgs st33) (defBody st33) (defScope st33) .none kV33 dc33 pm33 an33 cd33 ct33), sl33⟩) (c33 : PySem.W.codeIn K cd33 "need_places" = true) (k33 : PySem.W.keepIn K (.ref f33) = true)
    {od34 an34 : Option Addr} {sl34 : Array (Option Value)} {oc34 kV34 dc34 pm34 cd34 ct34 : Value}
    (a34 : PySem.W.nsIn K mainGlobals "least_lump" = some (some (.ref f34))) (l34 : K.lookup f34 = some ⟨oc34, od34, .func (PySem.W.fnOf "least_lump" "least_lump" (defArgs st34) (defBody st34) (defScope st34) .none kV34 dc34 pm34 an34 cd34 ct34), sl34⟩) (c34 : PySem.W.codeIn K cd34 "least_lump" = true) (k34 : PySem.W.keepIn K (.ref f34) = true)
    {od35 an35 : Option Addr} {sl35 : Array (Option Value)} {oc35 kV35 dc35 pm35 cd35 ct35 : Value}
    (a35 : PySem.W.nsIn K mainGlobals "crossing" = some (some (.ref f35))) (l35 : K.lookup f35 = some ⟨oc35, od35, .func (PySem.W.fnOf "crossing" "crossing" (defArgs st35) (defBody st35) (defScope st35) .none kV35 dc35 pm35 an35 cd35 ct35), sl35⟩) (c35 : PySem.W.codeIn K cd35 "crossing" = true) (k35 : PySem.W.keepIn K (.ref f35) = true)
    {od36 an36 : Option Addr} {sl36 : Array (Option Value)} {oc36 kV36 dc36 pm36 cd36 ct36 : Value}
    (a36 : PySem.W.nsIn K mainGlobals "depth" = some (some (.ref f36))) (l36 : K.lookup f36 = some ⟨oc36, od36, .func (PySem.W.fnOf "depth" "depth" (defArgs st36) (defBody st36) (defScope st36) .none kV36 dc36 pm36 an36 cd36 ct36), sl36⟩) (c36 : PySem.W.codeIn K cd36 "depth" = true) (k36 : PySem.W.keepIn K (.ref f36) = true)
    {od37 an37 : Option Addr} {sl37 : Array (Option Value)} {oc37 kV37 dc37 pm37 cd37 ct37 : Value}
    (a37 : PySem.W.nsIn K mainGlobals "wrong_member" = some (some (.ref f37))) (l37 : K.lookup f37 = some ⟨oc37, od37, .func (PySem.W.fnOf "wrong_member" "wrong_member" (defArgs st37) (defBody st37) (defScope st37) .none kV37 dc37 pm37 an37 cd37 ct37), sl37⟩) (c37 : PySem.W.codeIn K cd37 "wrong_member" = true) (k37 : PySem.W.keepIn K (.ref f37) = true)
    {od38 an38 : Option Addr} {sl38 : Array (Option Value)} {oc38 kV38 dc38 pm38 cd38 ct38 : Value}
    (a38 : PySem.W.nsIn K mainGlobals "wrong_plan" = some (some (.ref f38))) (l38 : K.lookup f38 = some ⟨oc38, od38, .func (PySem.W.fnOf "wrong_plan" "wrong_plan" (defArgs st38) (defBody st38) (defScope st38) .none kV38 dc38 pm38 an38 cd38 ct38), sl38⟩) (c38 : PySem.W.codeIn K cd38 "wrong_plan" = true) (k38 : PySem.W.keepIn K (.ref f38) = true)
    {od39 an39 : Option Addr} {sl39 : Array (Option Value)} {oc39 kV39 dc39 pm39 cd39 ct39 : Value}
    (a39 : PySem.W.findIn K (.ref f44) "__init__" = some (some (.ref f39))) (l39 : K.lookup f39 = some ⟨oc39, od39, .func (PySem.W.fnOf "__init__" "Plan.__init__" (defArgs st39) (defBody st39) (defScope st39) .none kV39 dc39 pm39 an39 cd39 ct39), sl39⟩) (c39 : PySem.W.codeIn K cd39 "Plan.__init__" = true) (k39 : PySem.W.keepIn K (.ref f39) = true) (q39 : PySem.W.isFn K (.ref f39) = true)
    {od40 an40 : Option Addr} {sl40 : Array (Option Value)} {oc40 kV40 dc40 pm40 cd40 ct40 : Value}
    (a40 : PySem.W.findIn K (.ref f44) "__eq__" = some (some (.ref f40))) (l40 : K.lookup f40 = some ⟨oc40, od40, .func (PySem.W.fnOf "__eq__" "Plan.__eq__" (defArgs st40) (defBody st40) (defScope st40) .none kV40 dc40 pm40 an40 cd40 ct40), sl40⟩) (c40 : PySem.W.codeIn K cd40 "Plan.__eq__" = true) (k40 : PySem.W.keepIn K (.ref f40) = true) (q40 : PySem.W.isFn K (.ref f40) = true)
    {od41 an41 : Option Addr} {sl41 : Array (Option Value)} {oc41 kV41 dc41 pm41 cd41 ct41 : Value}
    (a41 : PySem.W.findIn K (.ref f44) "tables" = some (some (.ref f41))) (l41 : K.lookup f41 = some ⟨oc41, od41, .func (PySem.W.fnOf "tables" "Plan.tables" (defArgs st41) (defBody st41) (defScope st41) .none kV41 dc41 pm41 an41 cd41 ct41), sl41⟩) (c41 : PySem.W.codeIn K cd41 "Plan.tables" = true) (k41 : PySem.W.keepIn K (.ref f41) = true) (q41 : PySem.W.isFn K (.ref f41) = true)
    {od42 an42 : Option Addr} {sl42 : Array (Option Value)} {oc42 kV42 dc42 pm42 cd42 ct42 : Value}
    (a42 : PySem.W.findIn K (.ref f44) "end" = some (some (.ref f42))) (l42 : K.lookup f42 = some ⟨oc42, od42, .func (PySem.W.fnOf "end" "Plan.end" (defArgs st42) (defBody st42) (defScope st42) .none kV42 dc42 pm42 an42 cd42 ct42), sl42⟩) (c42 : PySem.W.codeIn K cd42 "Plan.end" = true) (k42 : PySem.W.keepIn K (.ref f42) = true) (q42 : PySem.W.isFn K (.ref f42) = true)
    {od43 an43 : Option Addr} {sl43 : Array (Option Value)} {oc43 kV43 dc43 pm43 cd43 ct43 : Value}
    (a43 : PySem.W.findIn K (.ref f44) "stage" = some (some (.ref f43))) (l43 : K.lookup f43 = some ⟨oc43, od43, .func (PySem.W.fnOf "stage" "Plan.stage" (defArgs st43) (defBody st43) (defScope st43) .none kV43 dc43 pm43 an43 cd43 ct43), sl43⟩) (c43 : PySem.W.codeIn K cd43 "Plan.stage" = true) (k43 : PySem.W.keepIn K (.ref f43) = true) (q43 : PySem.W.isFn K (.ref f43) = true)
    (a44 : PySem.W.nsIn K mainGlobals "Plan" = some (some (.ref f44))) (k44 : PySem.W.keepIn K (.ref f44) = true)
    (u44 : PySem.W.plainGet K f44 Str.empty = true) (v44 : PySem.W.hasDictIn K f44 = true) (w44 : PySem.W.plainOver K f44 = true) (x44 : PySem.W.findIn K (.ref f44) "__setattr__" = some (some (.builtin "object.__setattr__"))) (y44 : PySem.W.makesIn K f44 = true)
    (n44_own_tables : PySem.W.findIn K (.ref f44) "own_tables" = some none)
    (n44_own_end : PySem.W.findIn K (.ref f44) "own_end" = some none)
    (i144 : PySem.W.findIn K (.ref f44) "__class__" = some (some (.builtin "object.__class__"))) (i244 : PySem.W.specialIn K (.builtin "object.__class__") "__get__" = some (some (.builtin "getset_descriptor.__get__"))) (i344 : PySem.W.takesIn K (.builtin "object.__class__") = some true) (i444 : PySem.W.mroIn K f44 (.type "object") = some true) (e144 : PySem.W.kitOne K (.ref f44) (.type "int") = some false) (e244 : PySem.W.kitOne K (.ref f44) (.type "bool") = some false) (e344 : PySem.W.kitOne K (.ref f44) (.type "str") = some false) (e444 : PySem.W.kitOne K (.ref f44) (.type "tuple") = some false) (e544 : PySem.W.kitOne K (.ref f44) (.type "list") = some false) (e644 : PySem.W.kitOne K (.ref f44) (.type "dict") = some false)
    {od45 an45 : Option Addr} {sl45 : Array (Option Value)} {oc45 kV45 dc45 pm45 cd45 ct45 : Value}
    (a45 : PySem.W.nsIn K mainGlobals "_law_example_right" = some (some (.ref f45))) (l45 : K.lookup f45 = some ⟨oc45, od45, .func (PySem.W.fnOf "_law_example_right" "_law_example_right" (defArgs st45) (defBody st45) (defScope st45) .none kV45 dc45 pm45 an45 cd45 ct45), sl45⟩) (c45 : PySem.W.codeIn K cd45 "_law_example_right" = true) (k45 : PySem.W.keepIn K (.ref f45) = true)
    {od46 an46 : Option Addr} {sl46 : Array (Option Value)} {oc46 kV46 dc46 pm46 cd46 ct46 : Value}
    (a46 : PySem.W.nsIn K mainGlobals "law" = some (some (.ref f46))) (l46 : K.lookup f46 = some ⟨oc46, od46, .func (PySem.W.fnOf "law" "law" (defArgs st46) (defBody st46) (defScope st46) .none kV46 dc46 pm46 an46 cd46 ct46), sl46⟩) (c46 : PySem.W.codeIn K cd46 "law" = true) (k46 : PySem.W.keepIn K (.ref f46) = true)
    {ae_ENDS : Addr} {od_ENDS : Option Addr} {tk_ENDS0 tk_ENDS1 : Tok} {nn_ENDS : Nat} {sl_ENDS : Array (Option Value)} (ga_ENDS : PySem.W.nsIn K mainGlobals "ENDS" = some (some (.ref ae_ENDS))) (gl_ENDS : K.lookup ae_ENDS = some ⟨.type "tuple", od_ENDS, .seq #[.str "left" tk_ENDS0, .str "right" tk_ENDS1] nn_ENDS, sl_ENDS⟩)
    {ti_MOST : Tok} (gi_MOST : PySem.W.nsIn K mainGlobals "MOST" = some (some (.int 400 ti_MOST)))
    {ccl18 : Value} {cdd18 : Option Addr} {vs18 : Array Value} {ccs18 : Array (Option Value)} (lc18 : K.lookup cT18 = some ⟨ccl18, cdd18, .fields vs18, ccs18⟩) (vp18 : vs18[11]? = some (.ref PT18)) (nt18 : K.lookup PT18 = none) (rf18 : ∃ dr, (recsOf q).find? (fun e : DefRec => e.name == ("all_lumps" : Str)) = some dr)
    (z_bool : PySem.W.nsIn K mainGlobals "bool" = some none) (z_enumerate : PySem.W.nsIn K mainGlobals "enumerate" = some none) (z_int : PySem.W.nsIn K mainGlobals "int" = some none) (z_isinstance : PySem.W.nsIn K mainGlobals "isinstance" = some none) (z_len : PySem.W.nsIn K mainGlobals "len" = some none) (z_list : PySem.W.nsIn K mainGlobals "list" = some none) (z_max : PySem.W.nsIn K mainGlobals "max" = some none) (z_min : PySem.W.nsIn K mainGlobals "min" = some none) (z_range : PySem.W.nsIn K mainGlobals "range" = some none) (z_sorted : PySem.W.nsIn K mainGlobals "sorted" = some none) (z_str : PySem.W.nsIn K mainGlobals "str" = some none) (z_tuple : PySem.W.nsIn K mainGlobals "tuple" = some none) :
    ∃ (T : Tt) (XT : List Addr) (cs : List (Addr × Addr)), (∀ p ∈ cs, ∃ (x : Str) (dr : DefRec), (recsOf q).find? (fun e : DefRec => e.name == x) = some dr ∧ PySem.W.tabIn K x = some p) ∧ (∀ p ∈ cs, K.lookup p.2 = none) ∧ (∀ p ∈ T.tb, ∃ c ∈ cs, p.1 = c.2) ∧ ∀ base : Heap, K.In base → base.Ns mainGlobals mg → (∀ p ∈ cs, LamX.TabB base mg p.1 p.2) → FG l.prog w K mg base 202 fa (spT ⟨K, T, XT⟩ (tabOf Prog 200 46)) := by
  have e := hfa.symm.trans (PySem.W.mg_of X G a46)
  cases e
  refine ⟨⟨[f44, f28], [(PT18, (("all_lumps" : Str) ++ ".<locals>.") ++ "<lambda>")]⟩, [], [(cT18, PT18)], fun p hp => ?_, fun p hp => ?_, fun p hp => ?_, fun base _ _ tbs => ?_⟩
  · simp only [List.mem_cons, List.not_mem_nil, or_false] at hp
    rcases hp with rfl
    · obtain ⟨dr, e⟩ := rf18; exact ⟨_, dr, e, tabIn_mk a18 l18 rfl lc18 vp18⟩
  · simp only [List.mem_cons, List.not_mem_nil, or_false] at hp
    rcases hp with rfl
    · exact nt18
  · simp only [List.mem_cons, List.not_mem_nil, or_false] at hp
    rcases hp with rfl
    · exact ⟨(cT18, PT18), by simp, rfl⟩

  let ad : Nat → Addr := fun i => match i with
    | 0 => f0
    | 1 => f1
    | 2 => f2
    | 3 => f3
    | 4 => f4
    | 5 => f5
    | 6 => f6
    | 7 => f7
    | 8 => f8
    | 9 => f9
    | 10 => f10
    | 11 => f11
    | 12 => f12
    | 13 => f13
    | 14 => f14
    | 15 => f15
    | 16 => f16
    | 17 => f17
    | 18 => f18
    | 19 => f19
    | 20 => f20
    | 21 => f21
    | 22 => f22
    | 23 => f23
    | 24 => f24
    | 25 => f25
    | 26 => f26
    | 27 => f27
    | 28 => f28
    | 29 => f29
    | 30 => f30
    | 31 => f31
    | 32 => f32
    | 33 => f33
    | 34 => f34
    | 35 => f35
    | 36 => f36
    | 37 => f37
    | 38 => f38
    | 39 => f39
    | 40 => f40
    | 41 => f41
    | 42 => f42
    | 43 => f43
    | 44 => f44
    | 45 => f45
    | 46 => fa
    | _ => 0
  have Z : Wd (⟨K, ⟨[f44, f28], [(PT18, (("all_lumps" : Str) ++ ".<locals>.") ++ "<lambda>")]⟩, []⟩ : Gd).K (⟨K, ⟨[f44, f28], [(PT18, (("all_lumps" : Str) ++ ".<locals>.") ++ "<lambda>")]⟩, []⟩ : Gd).T mg ad := { m0 := PySem.W.mg_of X G a0, k0 := k0, m1 := PySem.W.mg_of X G a1, k1 := k1, m2 := PySem.W.mg_of X G a2, k2 := k2, m3 := PySem.W.mg_of X G a3, k3 := k3, m4 := PySem.W.mg_of X G a4, k4 := k4, m5 := PySem.W.mg_of X G a5, k5 := k5, m6 := PySem.W.mg_of X G a6, k6 := k6, m7 := PySem.W.mg_of X G a7, k7 := k7, m8 := PySem.W.mg_of X G a8, k8 := k8, m9 := PySem.W.mg_of X G a9, k9 := k9, m10 := PySem.W.mg_of X G a10, k10 := k10, m11 := PySem.W.mg_of X G a11, k11 := k11, m12 := PySem.W.mg_of X G a12, k12 := k12, m13 := PySem.W.mg_of X G a13, k13 := k13, m14 := PySem.W.mg_of X G a14, k14 := k14, m15 := PySem.W.mg_of X G a15, k15 := k15, m16 := PySem.W.mg_of X G a16, k16 := k16, m17 := PySem.W.mg_of X G a17, k17 := k17, m18 := PySem.W.mg_of X G a18, k18 := k18, m19 := PySem.W.mg_of X G a19, k19 := k19, me20 := ⟨a20, q20, k20⟩, me21 := ⟨a21, q21, k21⟩, me22 := ⟨a22, q22, k22⟩, me23 := ⟨a23, q23, k23⟩, me24 := ⟨a24, q24, k24⟩, me25 := ⟨a25, q25, k25⟩, me26 := ⟨a26, q26, k26⟩, me27 := ⟨a27, q27, k27⟩, m28 := PySem.W.mg_of X G a28, k28 := k28, t1 := rfl, cl1 := ⟨u28, v28, w28, x28⟩, mk1 := ⟨y28, a20, q20, k28⟩, na1_plan := n28_plan, na1_many := n28_many, na1_width := n28_width, ic1 := insC_of ⟨u28, v28, w28, x28⟩ i128 i228 i328 i428, m29 := PySem.W.mg_of X G a29, k29 := k29, m30 := PySem.W.mg_of X G a30, k30 := k30, m31 := PySem.W.mg_of X G a31, k31 := k31, m32 := PySem.W.mg_of X G a32, k32 := k32, m33 := PySem.W.mg_of X G a33, k33 := k33, m34 := PySem.W.mg_of X G a34, k34 := k34, m35 := PySem.W.mg_of X G a35, k35 := k35, m36 := PySem.W.mg_of X G a36, k36 := k36, m37 := PySem.W.mg_of X G a37, k37 := k37, m38 := PySem.W.mg_of X G a38, k38 := k38, me39 := ⟨a39, q39, k39⟩, me40 := ⟨a40, q40, k40⟩, me41 := ⟨a41, q41, k41⟩, me42 := ⟨a42, q42, k42⟩, me43 := ⟨a43, q43, k43⟩, m44 := PySem.W.mg_of X G a44, k44 := k44, t0 := rfl, cl0 := ⟨u44, v44, w44, x44⟩, mk0 := ⟨y44, a39, q39, k44⟩, na0_own_tables := n44_own_tables, na0_own_end := n44_own_end, ic0 := insC_of ⟨u44, v44, w44, x44⟩ i144 i244 i344 i444, m45 := PySem.W.mg_of X G a45, k45 := k45, m46 := PySem.W.mg_of X G a46, k46 := k46, c_ENDS := ⟨_, _, _, _, PySem.W.mg_of X G ga_ENDS, gl_ENDS, rfl, rfl, (by show 2 ≤ sizeLine; decide), .cons ⟨_, rfl⟩ (.cons ⟨_, rfl⟩ (.nil))⟩, i_MOST := ⟨_, PySem.W.mg_of X G gi_MOST⟩, b_bool := PySem.W.mg_none_of X G z_bool, b_enumerate := PySem.W.mg_none_of X G z_enumerate, b_int := PySem.W.mg_none_of X G z_int, b_isinstance := PySem.W.mg_none_of X G z_isinstance, b_len := PySem.W.mg_none_of X G z_len, b_list := PySem.W.mg_none_of X G z_list, b_max := PySem.W.mg_none_of X G z_max, b_min := PySem.W.mg_none_of X G z_min, b_range := PySem.W.mg_none_of X G z_range, b_sorted := PySem.W.mg_none_of X G z_sorted, b_str := PySem.W.mg_none_of X G z_str, b_tuple := PySem.W.mg_none_of X G z_tuple, kf := KitF.cons (insK_mk ⟨u44, v44, w44, x44⟩ i144 i244 i344 i444 e144 e244 e344 e444 e544 e644) (KitF.cons (insK_mk ⟨u28, v28, w28, x28⟩ i128 i228 i328 i428 e128 e228 e328 e428 e528 e628) (kitF_nil _)) }
  have Y : Fns (⟨K, ⟨[f44, f28], [(PT18, (("all_lumps" : Str) ++ ".<locals>.") ++ "<lambda>")]⟩, []⟩ : Gd).K ad := { f0 := (let F := fun_mk (st := st0) l0 c0 k0; ⟨_, F, F.binds fun _ _ _ _ _ _ us hl => match us, hl with | [_], _ => rfl⟩), f1 := (let F := fun_mk (st := st1) l1 c1 k1; ⟨_, F, F.binds fun _ _ _ _ _ _ us hl => match us, hl with | [_], _ => rfl⟩), f2 := (let F := fun_mk (st := st2) l2 c2 k2; ⟨_, F, F.binds fun _ _ _ _ _ _ us hl => match us, hl with | [_], _ => rfl⟩), f3 := (let F := fun_mk (st := st3) l3 c3 k3; ⟨_, F, F.binds fun _ _ _ _ _ _ us hl => match us, hl with | [_], _ => rfl⟩), f4 := (let F := fun_mk (st := st4) l4 c4 k4; ⟨_, F, F.binds fun _ _ _ _ _ _ us hl => match us, hl with | [_, _], _ => rfl⟩), f5 := (let F := fun_mk (st := st5) l5 c5 k5; ⟨_, F, F.binds fun _ _ _ _ _ _ us hl => match us, hl with | [_], _ => rfl⟩), f6 := (let F := fun_mk (st := st6) l6 c6 k6; ⟨_, F, F.binds fun _ _ _ _ _ _ us hl => match us, hl with | [_], _ => rfl⟩), f7 := (let F := fun_mk (st := st7) l7 c7 k7; ⟨_, F, F.binds fun _ _ _ _ _ _ us hl => match us, hl with | [_], _ => rfl⟩), f8 := (let F := fun_mk (st := st8) l8 c8 k8; ⟨_, F, F.binds fun _ _ _ _ _ _ us hl => match us, hl with | [_, _], _ => rfl⟩), f9 := (let F := fun_mk (st := st9) l9 c9 k9; ⟨_, F, F.binds fun _ _ _ _ _ _ us hl => match us, hl with | [_, _], _ => rfl⟩), f10 := (let F := fun_mk (st := st10) l10 c10 k10; ⟨_, F, F.binds fun _ _ _ _ _ _ us hl => match us, hl with | [_, _], _ => rfl⟩), f11 := (let F := fun_mk (st := st11) l11 c11 k11; ⟨_, F, F.binds fun _ _ _ _ _ _ us hl => match us, hl with | [_, _], _ => rfl⟩), f12 := (let F := fun_mk (st := st12) l12 c12 k12; ⟨_, F, F.binds fun _ _ _ _ _ _ us hl => match us, hl with | [_, _], _ => rfl⟩), f13 := (let F := fun_mk (st := st13) l13 c13 k13; ⟨_, F, F.binds fun _ _ _ _ _ _ us hl => match us, hl with | [_, _], _ => rfl⟩), f14 := (let F := fun_mk (st := st14) l14 c14 k14; ⟨_, F, F.binds fun _ _ _ _ _ _ us hl => match us, hl with | [_, _, _], _ => rfl⟩), f15 := (let F := fun_mk (st := st15) l15 c15 k15; ⟨_, F, F.binds fun _ _ _ _ _ _ us hl => match us, hl with | [_], _ => rfl⟩), f16 := (let F := fun_mk (st := st16) l16 c16 k16; ⟨_, F, F.binds fun _ _ _ _ _ _ us hl => match us, hl with | [_, _], _ => rfl⟩), f17 := (let F := fun_mk (st := st17) l17 c17 k17; ⟨_, F, F.binds fun _ _ _ _ _ _ us hl => match us, hl with | [_, _], _ => rfl⟩), f18 := (let F := fun_mk (st := st18) l18 c18 k18; ⟨_, F, F.binds fun _ _ _ _ _ _ us hl => match us, hl with | [_, _], _ => rfl⟩), f19 := (let F := fun_mk (st := st19) l19 c19 k19; ⟨_, F, F.binds fun _ _ _ _ _ _ us hl => match us, hl with | [_, _, _], _ => rfl⟩), f20 := (let F := fun_mk (st := st20) l20 c20 k20; ⟨_, F, F.binds fun _ _ _ _ _ _ us hl => match us, hl with | [_, _, _], _ => rfl⟩), f21 := (let F := fun_mk (st := st21) l21 c21 k21; ⟨_, F, F.binds fun _ _ _ _ _ _ us hl => match us, hl with | [_, _], _ => rfl⟩), f22 := (let F := fun_mk (st := st22) l22 c22 k22; ⟨_, F, F.binds fun _ _ _ _ _ _ us hl => match us, hl with | [_, _, _], _ => rfl⟩), f23 := (let F := fun_mk (st := st23) l23 c23 k23; ⟨_, F, F.binds fun _ _ _ _ _ _ us hl => match us, hl with | [_, _], _ => rfl⟩), f24 := (let F := fun_mk (st := st24) l24 c24 k24; ⟨_, F, F.binds fun _ _ _ _ _ _ us hl => match us, hl with | [_], _ => rfl⟩), f25 := (let F := fun_mk (st := st25) l25 c25 k25; ⟨_, F, F.binds fun _ _ _ _ _ _ us hl => match us, hl with | [_, _], _ => rfl⟩), f26 := (let F := fun_mk (st := st26) l26 c26 k26; ⟨_, F, F.binds fun _ _ _ _ _ _ us hl => match us, hl with | [_, _, _, _], _ => rfl⟩), f27 := (let F := fun_mk (st := st27) l27 c27 k27; ⟨_, F, F.binds fun _ _ _ _ _ _ us hl => match us, hl with | [_, _, _], _ => rfl⟩), f29 := (let F := fun_mk (st := st29) l29 c29 k29; ⟨_, F, F.binds fun _ _ _ _ _ _ us hl => match us, hl with | [_, _, _, _], _ => rfl⟩), f30 := (let F := fun_mk (st := st30) l30 c30 k30; ⟨_, F, F.binds fun _ _ _ _ _ _ us hl => match us, hl with | [_, _, _, _], _ => rfl⟩), f31 := (let F := fun_mk (st := st31) l31 c31 k31; ⟨_, F, F.binds fun _ _ _ _ _ _ us hl => match us, hl with | [_, _, _], _ => rfl⟩), f32 := (let F := fun_mk (st := st32) l32 c32 k32; ⟨_, F, F.binds fun _ _ _ _ _ _ us hl => match us, hl with | [_, _, _, _], _ => rfl⟩), f33 := (let F := fun_mk (st := st33) l33 c33 k33; ⟨_, F, F.binds fun _ _ _ _ _ _ us hl => match us, hl with | [_, _], _ => rfl⟩), f34 := (let F := fun_mk (st := st34) l34 c34 k34; ⟨_, F, F.binds fun _ _ _ _ _ _ us hl => match us, hl with | [_, _, _, _], _ => rfl⟩), f35 := (let F := fun_mk (st := st35) l35 c35 k35; ⟨_, F, F.binds fun _ _ _ _ _ _ us hl => match us, hl with | [_, _, _, _], _ => rfl⟩), f36 := (let F := fun_mk (st := st36) l36 c36 k36; ⟨_, F, F.binds fun _ _ _ _ _ _ us hl => match us, hl with | [_, _, _], _ => rfl⟩), f37 := (let F := fun_mk (st := st37) l37 c37 k37; ⟨_, F, F.binds fun _ _ _ _ _ _ us hl => match us, hl with | [_], _ => rfl⟩), f38 := (let F := fun_mk (st := st38) l38 c38 k38; ⟨_, F, F.binds fun _ _ _ _ _ _ us hl => match us, hl with | [_, _], _ => rfl⟩), f39 := (let F := fun_mk (st := st39) l39 c39 k39; ⟨_, F, F.binds fun _ _ _ _ _ _ us hl => match us, hl with | [_, _, _], _ => rfl⟩), f40 := (let F := fun_mk (st := st40) l40 c40 k40; ⟨_, F, F.binds fun _ _ _ _ _ _ us hl => match us, hl with | [_, _], _ => rfl⟩), f41 := (let F := fun_mk (st := st41) l41 c41 k41; ⟨_, F, F.binds fun _ _ _ _ _ _ us hl => match us, hl with | [_], _ => rfl⟩), f42 := (let F := fun_mk (st := st42) l42 c42 k42; ⟨_, F, F.binds fun _ _ _ _ _ _ us hl => match us, hl with | [_], _ => rfl⟩), f43 := (let F := fun_mk (st := st43) l43 c43 k43; ⟨_, F, F.binds fun _ _ _ _ _ _ us hl => match us, hl with | [_, _], _ => rfl⟩), f45 := (let F := fun_mk (st := st45) l45 c45 k45; ⟨_, F, F.binds fun _ _ _ _ _ _ us hl => match us, hl with | [], _ => rfl⟩), f46 := (let F := fun_mk (st := st46) l46 c46 k46; ⟨_, F, F.binds fun _ _ _ _ _ _ us hl => match us, hl with | [_], _ => rfl⟩) }
  have L : Lms (⟨K, ⟨[f44, f28], [(PT18, (("all_lumps" : Str) ++ ".<locals>.") ++ "<lambda>")]⟩, []⟩ : Gd) base mg ad := { l18 := ⟨cT18, PT18, tbs (cT18, PT18) (by simp), codeOf_mk l18, by simp, tbu18⟩ }
  exact fgs Z Y L 200 46
end Ev
namespace Ev
open PySem L2
def StepR (I : Env → Store → Prop) (R : OutS → Prop) : OutS → Prop
  | .nx e M => I e M
  | .ct e M => I e M
  | .bk e M => R (.nx e M)
  | .rt d M => R (.rt d M)
  | .exc x fs e M => R (.exc x fs e M)
  | .bad => R .bad
theorem while_rule {c : EvT} {b : EvS} {R : OutS → Prop} (I : Nat → Env → Store → Prop)
    (step : ∀ i eta M, I i eta M → ∃ k M1, c eta M = .ok k M1 ∧ if k = true then (∃ j, j < i ∧ StepR (I j) R (b eta M1)) else R (.nx eta M1)) :
    ∀ (m i : Nat) (eta : Env) (M : Store), i < m → I i eta M → R (sWhile c b m eta M)
  | 0, i, eta, M, hm, h => by omega
  | m + 1, i, eta, M, hm, h => by
    obtain ⟨k, M1, hc, hk⟩ := step i eta M h
    unfold sWhile
    simp only [hc, OutS.bindE]
    cases k with
    | false => exact hk
    | true =>
      simp only [if_true] at hk ⊢
      obtain ⟨j, hj, r⟩ := hk
      cases hb : b eta M1 with
      | nx e' M' => rw [hb] at r; exact while_rule I step m j e' M' (by omega) r
      | ct e' M' => rw [hb] at r; exact while_rule I step m j e' M' (by omega) r
      | bk e' M' => rw [hb] at r; exact r
      | rt d M' => rw [hb] at r; exact r
      | exc x fs e' M' => rw [hb] at r; exact r
      | bad => rw [hb] at r; exact r
theorem app_old {P : Store} {n : Nat} {o : MO} (h : P[n]? = some o) (N : Store) : (P ++ N)[n]? = some o := by
  rw [List.getElem?_append_left (List.getElem?_eq_some_iff.mp h).1]; exact h
theorem tab_at {P : List Fn} {k i : Nat} {F : Fn} {args : List D} {M : Store} (h : P[i]? = some F) (hl : args.length = F.np) : tabOf P (k + 1) i args M = finS M (F.body (tabOf P k) (args.map some ++ List.replicate (F.nn - F.np) none) M) := by
  show (match P[i]? with
    | some F => runFn F (tabOf P k) args M
    | none => .bad) = _
  rw [h]
  simp only [runFn, if_pos hl]
end Ev
namespace Ev
open PySem L2
theorem keptOk_of {k : Nat} : ∀ {M0 M : Store}, M.length = M0.length → (∀ (i : Nat) (m o : MO), M0[i]? = some m → M[i]? = some o → o = m ∨ o.low k = true) → keptOk k M0 M = true
  | [], _, _, _ => rfl
  | m :: r, [], h, _ => by simp at h
  | m :: r, o :: s, h, f => by
    simp only [keptOk, Bool.and_eq_true, Bool.or_eq_true]
    refine ⟨?_, keptOk_of (by simpa using h) fun i a b h1 h2 => f (i + 1) a b (by simpa using h1) (by simpa using h2)⟩
    rcases f 0 m o rfl rfl with e | e
    · subst e; exact .inl (MO.same_refl _)
    · exact .inr e
abbrev kC : Key := Sum.inr "cells"
abbrev kL : Key := Sum.inr "left"
abbrev kM : Key := Sum.inr "mixed"
abbrev kT : Key := Sum.inr "turn"
theorem n_cl : ¬ kC = kL := by decide +kernel
theorem n_cm : ¬ kC = kM := by decide +kernel
theorem n_ct : ¬ kC = kT := by decide +kernel
theorem n_lm : ¬ kL = kM := by decide +kernel
theorem n_lt : ¬ kL = kT := by decide +kernel
theorem n_mt : ¬ kM = kT := by decide +kernel
theorem m_cl : ¬ (Str.ofString "cells" = Str.ofString "left") := by decide +kernel
theorem m_cm : ¬ (Str.ofString "cells" = Str.ofString "mixed") := by decide +kernel
theorem m_ct : ¬ (Str.ofString "cells" = Str.ofString "turn") := by decide +kernel
theorem m_lm : ¬ (Str.ofString "left" = Str.ofString "mixed") := by decide +kernel
theorem m_lt : ¬ (Str.ofString "left" = Str.ofString "turn") := by decide +kernel
theorem m_mt : ¬ (Str.ofString "mixed" = Str.ofString "turn") := by decide +kernel
theorem m_ml : ¬ (Str.ofString "mixed" = Str.ofString "left") := by decide +kernel
theorem m_tl : ¬ (Str.ofString "turn" = Str.ofString "left") := by decide +kernel
theorem m_tm : ¬ (Str.ofString "turn" = Str.ofString "mixed") := by decide +kernel
def srcO (c : Nat) (l m t : Int) : MO := .dicK [(kC, .ref c), (kL, .int l), (kM, .int m), (kT, .int t)]
section
variable {M : Store} {s c : Nat} {l m t : Int}
theorem src_c (h : M[s]? = some (srcO c l m t)) : dIx (.ref s) (.str "cells") M = .ok (.ref c) M := by
  simp only [dIx, dictAt, h, srcO, keyK, findK, if_true]
theorem src_l (h : M[s]? = some (srcO c l m t)) : dIx (.ref s) (.str "left") M = .ok (.int l) M := by
  simp only [dIx, dictAt, h, srcO, keyK, findK, if_true, if_neg n_cl]
theorem src_m (h : M[s]? = some (srcO c l m t)) : dIx (.ref s) (.str "mixed") M = .ok (.int m) M := by
  simp only [dIx, dictAt, h, srcO, keyK, findK, if_true, if_neg n_cm, if_neg n_lm]
theorem src_t (h : M[s]? = some (srcO c l m t)) : dIx (.ref s) (.str "turn") M = .ok (.int t) M := by
  simp only [dIx, dictAt, h, srcO, keyK, findK, if_true, if_neg n_ct, if_neg n_lt, if_neg n_mt]
theorem src_sl {x : Int} (h : M[s]? = some (srcO c l m t)) : setD (.ref s) (.str "left") (.int x) M = .ok () (M.set s (srcO c x m t)) := by
  simp only [setD, h, srcO, keyK]
  rw [if_pos (by simp [cap])]
  simp [putD, m_cl, m_ml, m_tl]
theorem src_sm {x : Int} (h : M[s]? = some (srcO c l m t)) : setD (.ref s) (.str "mixed") (.int x) M = .ok () (M.set s (srcO c l x t)) := by
  simp only [setD, h, srcO, keyK]
  rw [if_pos (by simp [cap])]
  simp [putD, m_cm, m_lm, m_tm]
theorem src_st {x : Int} (h : M[s]? = some (srcO c l m t)) : setD (.ref s) (.str "turn") (.int x) M = .ok () (M.set s (srcO c l m x)) := by
  simp only [setD, h, srcO, keyK]
  rw [if_pos (by simp [cap])]
  simp [putD, m_ct, m_lt, m_mt]
end
/-- the source stands at s, its cells at c -/
structure Src (M : Store) (s c : Nat) : Prop where
  ne : s ≠ c
  at_ : ∃ (cs : List Int) (l m t : Int), M[s]? = some (srcO c l m t) ∧ M[c]? = some (.lst (cs.map D.int)) ∧ cs.length ≤ 63
theorem Src.lt {M : Store} {s c : Nat} (h : Src M s c) : s < M.length ∧ c < M.length := by
  obtain ⟨cs, l, m, t, h1, h2, _⟩ := h.at_
  exact ⟨(List.getElem?_eq_some_iff.mp h1).1, (List.getElem?_eq_some_iff.mp h2).1⟩
theorem Src.app {M : Store} {s c : Nat} (h : Src M s c) (N : Store) : Src (M ++ N) s c := by
  obtain ⟨cs, l, m, t, h1, h2, h3⟩ := h.at_
  exact ⟨h.ne, cs, l, m, t, app_old h1 N, app_old h2 N, h3⟩
/-- all but the source is as it was -/
structure But (s c : Nat) (M M' : Store) : Prop where
  len : M'.length = M.length
  at_ : ∀ i, i ≠ s → i ≠ c → M'[i]? = M[i]?
theorem But.refl {s c : Nat} (M : Store) : But s c M M := ⟨rfl, fun _ _ _ => rfl⟩
theorem But.trans {s c : Nat} {M1 M2 M3 : Store} (a : But s c M1 M2) (b : But s c M2 M3) : But s c M1 M3 := ⟨b.len.trans a.len, fun i h1 h2 => (b.at_ i h1 h2).trans (a.at_ i h1 h2)⟩
theorem But.setS {s c : Nat} (M : Store) (o : MO) : But s c M (M.set s o) := ⟨by simp, fun i h1 _ => by rw [List.getElem?_set_ne (Ne.symm h1)]⟩
theorem But.setC {s c : Nat} (M : Store) (o : MO) : But s c M (M.set c o) := ⟨by simp, fun i _ h1 => by rw [List.getElem?_set_ne (Ne.symm h1)]⟩
def pickQ : EvT := tAn (tOf (eBin dGt (eVar 1) (eC (.int 1)))) (tAn (tOf (eBin dLt (eBin dIx (eVar 0) (eC (.str "left"))) (eC (.int 2)))) (tOf (eBin dGt (eB bLen (lCons (eBin dIx (eVar 0) (eC (.str "cells"))) (lNil))) (eC (.int 0)))))
def pickB : EvS := sSet (eVar 0) (eC (.str "left")) (eMl0 mPop (eBin dIx (eVar 0) (eC (.str "cells"))))
def pickR : EvS :=
  sSeq (sAsg (.nm 2) (eBin dIx (eVar 0) (eC (.str "left")))) (sSeq (sIf (tOrr (tOf (eBin dLt (eVar 1) (eC (.int 2)))) (tOf (eBin dGt (eVar 2) (eC (.int 1))))) (sSeq (sSet (eVar 0) (eC (.str "left")) (eBin dFdiv (eVar 2) (eB bMax (lCons (eC (.int 1)) (lCons (eVar 1) (lNil)))))) (sRet (eBin dMod (eB bInt (lCons (eVar 2) (lNil))) (eB bMax (lCons (eC (.int 1)) (lCons (eVar 1) (lNil))))))) (sSkip)) (sSeq (sSet (eVar 0) (eC (.str "turn")) (eBin dAdd (eBin dIx (eVar 0) (eC (.str "turn"))) (eC (.int 1)))) (sSeq (sAsg (.nm 3) (eBin dMod (eB bInt (lCons (eBin dAdd (eBin dIx (eVar 0) (eC (.str "mixed"))) (eBin dMulA (eBin dIx (eVar 0) (eC (.str "turn"))) (eC (.int 104729)))) (lNil))) (eC (.int 998244353)))) (sSeq (sAsg (.nm 3) (eBin dMod (eB bInt (lCons (eBin dAdd (eBin dMulA (eVar 3) (eVar 3)) (eBin dMulA (eBin dIx (eVar 0) (eC (.str "turn"))) (eC (.int 17)))) (lNil))) (eC (.int 2147483647)))) (sSeq (sSet (eVar 0) (eC (.str "mixed")) (eVar 3)) (sRet (eBin dMod (eB bInt (lCons (eBin dFdiv (eVar 3) (eC (.int 16))) (lNil))) (eVar 1))))))))
def cPick : EvS := sSeq (sWhile pickQ pickB FUEL) pickR
def PickR (M0 : Store) (s c : Nat) (many : Int) (o : OutS) : Prop := ∃ r M', o = .rt (.int r) M' ∧ 0 ≤ r ∧ r < many ∧ Src M' s c ∧ But s c M0 M'
theorem mul1 {i j : Int} (h : -(2 ^ 64) < j ∧ j < 2 ^ 64) : mulOk i j = true := by
  unfold mulOk
  simp only [Bool.or_eq_true, decide_eq_true_eq]
  exact .inl (.inr h)
theorem pickR_ok {M0 M : Store} {s c : Nat} {many : Int} (h : Src M s c) (b : But s c M0 M) (h1 : 1 ≤ many) (h2 : many < 2 ^ 60) : PickR M0 s c many (pickR [some (.ref s), some (.int many), none, none] M) := by
  obtain ⟨cs, l, m, t, e1, e2, e3⟩ := h.at_
  have hlt := h.lt
  have hmx : (if many > 1 then many else 1) = many := by split <;> omega
  have hlg : many.natAbs.log2 < 9000 := by
    have : many.natAbs.log2 ≤ many.natAbs := Nat.log2_le_self _
    rcases Nat.lt_or_ge many.natAbs.log2 9000 with q | q
    · exact q
    · exfalso
      have q1 : 2 ^ 9000 ≤ many.natAbs := (Nat.le_log2 (by omega)).mp q
      have q2 : (2 : Nat) ^ 60 ≤ 2 ^ 9000 := Nat.pow_le_pow_right (by decide) (by decide)
      have q3 : many.natAbs < 2 ^ 60 := by
        have : (2 : Int) ^ 60 = ((2 ^ 60 : Nat) : Int) := by norm_cast
        omega
      omega
  unfold pickR
  by_cases hc : many < 2 ∨ 1 < l
  · refine ⟨l % many, M.set s (srcO c (l / many) m t), ?_, Int.emod_nonneg _ (by omega), Int.emod_lt_of_pos _ (by omega), ⟨h.ne, cs, l / many, m, t, by simp [hlt.1], by rw [List.getElem?_set_ne h.ne]; exact e2, e3⟩, b.trans (But.setS _ _)⟩
    simp only [sSeq, sAsg, sPar, setAll, sRet, sRetN, sIf, sExpr, sAug, sSet, sSkip, sFor, sBreak, sCont, OutS.bindE, asg, asgs, partsD, StepR, Out.bind, eVar, eC, eBin, eUn, eIf, eAn, eOrr, eNt, eTup, eLst, lCons, lNil, eB, eLc, eCall, eMl, eMl0, eCut, oNone, oSome, dCut, eGet1, eGet2, eDict, pCons, pNil, eDicK, eDicT, eLrg1, eLrg2, rgIn1, rgIn2, tOf, asB, tTru, truthD, tNt, tAn, tOrr, itE, itD, itRange1, itRange2, itEnum, dAdd, dSub, dMulA, dMul, dFdiv, dMod, dNeg, dCmp, dLt, dLe, dGt, dGe, dIs, dMulI, dAddI, bAbs, bInt, bLen, bMax, bMin, bSum, bTuple, bList, isLst, List.getElem?_cons_zero, List.getElem?_cons_succ, List.getElem?_nil, List.set_cons_zero, List.set_cons_succ, if_true, if_false, Bool.false_eq_true, decide_eq_true_eq, List.map_cons, List.map_nil, List.replicate, List.length_cons, List.length_nil, List.cons_append, List.nil_append, wipeE, src_l e1]
    by_cases q : many < 2
    · simp only [sSeq, sAsg, sPar, setAll, sRet, sRetN, sIf, sExpr, sAug, sSet, sSkip, sFor, sBreak, sCont, OutS.bindE, asg, asgs, partsD, StepR, Out.bind, eVar, eC, eBin, eUn, eIf, eAn, eOrr, eNt, eTup, eLst, lCons, lNil, eB, eLc, eCall, eMl, eMl0, eCut, oNone, oSome, dCut, eGet1, eGet2, eDict, pCons, pNil, eDicK, eDicT, eLrg1, eLrg2, rgIn1, rgIn2, tOf, asB, tTru, truthD, tNt, tAn, tOrr, itE, itD, itRange1, itRange2, itEnum, dAdd, dSub, dMulA, dMul, dFdiv, dMod, dNeg, dCmp, dLt, dLe, dGt, dGe, dIs, dMulI, dAddI, bAbs, bInt, bLen, bMax, bMin, bSum, bTuple, bList, isLst, List.getElem?_cons_zero, List.getElem?_cons_succ, List.getElem?_nil, List.set_cons_zero, List.set_cons_succ, if_true, if_false, Bool.false_eq_true, decide_eq_true_eq, List.map_cons, List.map_nil, List.replicate, List.length_cons, List.length_nil, List.cons_append, List.nil_append, wipeE, q, decide_true, src_sl e1, hmx, hlg, show (0 : Int) < many from by omega, and_self]
    · have q' : 1 < l := by omega
      simp only [sSeq, sAsg, sPar, setAll, sRet, sRetN, sIf, sExpr, sAug, sSet, sSkip, sFor, sBreak, sCont, OutS.bindE, asg, asgs, partsD, StepR, Out.bind, eVar, eC, eBin, eUn, eIf, eAn, eOrr, eNt, eTup, eLst, lCons, lNil, eB, eLc, eCall, eMl, eMl0, eCut, oNone, oSome, dCut, eGet1, eGet2, eDict, pCons, pNil, eDicK, eDicT, eLrg1, eLrg2, rgIn1, rgIn2, tOf, asB, tTru, truthD, tNt, tAn, tOrr, itE, itD, itRange1, itRange2, itEnum, dAdd, dSub, dMulA, dMul, dFdiv, dMod, dNeg, dCmp, dLt, dLe, dGt, dGe, dIs, dMulI, dAddI, bAbs, bInt, bLen, bMax, bMin, bSum, bTuple, bList, isLst, List.getElem?_cons_zero, List.getElem?_cons_succ, List.getElem?_nil, List.set_cons_zero, List.set_cons_succ, if_true, if_false, Bool.false_eq_true, decide_eq_true_eq, List.map_cons, List.map_nil, List.replicate, List.length_cons, List.length_nil, List.cons_append, List.nil_append, wipeE, q, q', decide_true, decide_false, src_sl e1, hmx, hlg, show (0 : Int) < many from by omega, and_self]
  · have q1 : ¬ many < 2 := fun z => hc (.inl z)
    have q2 : ¬ 1 < l := fun z => hc (.inr z)
    have f1 : (M.set s (srcO c l m (t + 1)))[s]? = some (srcO c l m (t + 1)) := by simp [hlt.1]
    have g1 : ∀ x : Int, 0 ≤ x % 998244353 ∧ x % 998244353 < 998244353 := fun x => ⟨Int.emod_nonneg _ (by decide), Int.emod_lt_of_pos _ (by decide)⟩
    refine ⟨_, _, by
      simp only [sSeq, sAsg, sPar, setAll, sRet, sRetN, sIf, sExpr, sAug, sSet, sSkip, sFor, sBreak, sCont, OutS.bindE, asg, asgs, partsD, StepR, Out.bind, eVar, eC, eBin, eUn, eIf, eAn, eOrr, eNt, eTup, eLst, lCons, lNil, eB, eLc, eCall, eMl, eMl0, eCut, oNone, oSome, dCut, eGet1, eGet2, eDict, pCons, pNil, eDicK, eDicT, eLrg1, eLrg2, rgIn1, rgIn2, tOf, asB, tTru, truthD, tNt, tAn, tOrr, itE, itD, itRange1, itRange2, itEnum, dAdd, dSub, dMulA, dMul, dFdiv, dMod, dNeg, dCmp, dLt, dLe, dGt, dGe, dIs, dMulI, dAddI, bAbs, bInt, bLen, bMax, bMin, bSum, bTuple, bList, isLst, List.getElem?_cons_zero, List.getElem?_cons_succ, List.getElem?_nil, List.set_cons_zero, List.set_cons_succ, if_true, if_false, Bool.false_eq_true, decide_eq_true_eq, List.map_cons, List.map_nil, List.replicate, List.length_cons, List.length_nil, List.cons_append, List.nil_append, wipeE, src_l e1, q1, q2, decide_false, src_st e1, src_t e1, src_t f1, src_m f1, mul1 (i := t + 1) (j := 104729) (by decide), mul1 (i := t + 1) (j := 17) (by decide), show (0 : Int) < 998244353 from by decide, show (0 : Int) < 2147483647 from by decide,
        mul1 (i := (m + (t + 1) * 104729) % 998244353) (j := (m + (t + 1) * 104729) % 998244353) (by have := g1 (m + (t + 1) * 104729); omega), src_sm f1, show ((0 : Int) < 16 ∧ (16 : Int).natAbs.log2 < 9000) from by decide, show (0 : Int) < many from by omega, and_self]
      rfl, Int.emod_nonneg _ (by omega), Int.emod_lt_of_pos _ (by omega), ⟨h.ne, cs, l, _, t + 1, by simp [hlt.1]; rfl, by rw [List.getElem?_set_ne h.ne, List.getElem?_set_ne h.ne]; exact e2, e3⟩, (b.trans (But.setS _ _)).trans (But.setS _ _)⟩
theorem cPick_ok {M : Store} {s c : Nat} {many : Int} (h : Src M s c) (h1 : 1 ≤ many) (h2 : many < 2 ^ 60) : PickR M s c many (cPick [some (.ref s), some (.int many), none, none] M) := by
  obtain ⟨cs0, _, _, _, hs, hc, e3⟩ := h.at_
  show PickR M s c many (match sWhile pickQ pickB FUEL [some (.ref s), some (.int many), none, none] M with
    | .nx eta' M' => pickR eta' M'
    | o => o)
  refine while_rule (c := pickQ) (b := pickB) (R := fun o => PickR M s c many (match o with
    | .nx eta' M' => pickR eta' M'
    | o => o)) (fun i eta M' => i ≤ 63 ∧ eta = [some (.ref s), some (.int many), none, none] ∧ But s c M M' ∧ s ≠ c ∧ ∃ (cs : List Int) (l m t : Int), M'[s]? = some (srcO c l m t) ∧ M'[c]? = some (.lst (cs.map D.int)) ∧ cs.length = i) (fun i eta M' ⟨hi, he, b, ne, cs, l, m, t, e1, e2, e3⟩ => ?_) FUEL (cs0 : List Int).length _ M (by unfold FUEL; omega) ⟨e3, rfl, But.refl _, h.ne, cs0, _, _, _, hs, hc, rfl⟩
  subst he
  have hR : PickR M s c many (pickR [some (.ref s), some (.int many), none, none] M') := pickR_ok ⟨ne, cs, l, m, t, e1, e2, by omega⟩ b h1 h2
  by_cases q1 : 1 < many
  · by_cases q2 : l < 2
    · rcases List.eq_nil_or_concat cs with q3 | ⟨ys, y, q3⟩
      · subst q3
        refine ⟨false, M', ?_, hR⟩
        unfold pickQ
        simp only [sSeq, sAsg, sPar, setAll, sRet, sRetN, sIf, sExpr, sAug, sSet, sSkip, sFor, sBreak, sCont, OutS.bindE, asg, asgs, partsD, StepR, Out.bind, eVar, eC, eBin, eUn, eIf, eAn, eOrr, eNt, eTup, eLst, lCons, lNil, eB, eLc, eCall, eMl, eMl0, eCut, oNone, oSome, dCut, eGet1, eGet2, eDict, pCons, pNil, eDicK, eDicT, eLrg1, eLrg2, rgIn1, rgIn2, tOf, asB, tTru, truthD, tNt, tAn, tOrr, itE, itD, itRange1, itRange2, itEnum, dAdd, dSub, dMulA, dMul, dFdiv, dMod, dNeg, dCmp, dLt, dLe, dGt, dGe, dIs, dMulI, dAddI, bAbs, bInt, bLen, bMax, bMin, bSum, bTuple, bList, isLst, List.getElem?_cons_zero, List.getElem?_cons_succ, List.getElem?_nil, List.set_cons_zero, List.set_cons_succ, if_true, if_false, Bool.false_eq_true, decide_eq_true_eq, List.map_cons, List.map_nil, List.replicate, List.length_cons, List.length_nil, List.cons_append, List.nil_append, wipeE, q1, q2, decide_true, src_l e1, src_c e1, e2, Int.natCast_zero, show ¬ ((0 : Int) < 0) from by decide, decide_false]
      · subst q3
        refine ⟨true, M', ?_, ?_⟩
        · unfold pickQ
          simp only [sSeq, sAsg, sPar, setAll, sRet, sRetN, sIf, sExpr, sAug, sSet, sSkip, sFor, sBreak, sCont, OutS.bindE, asg, asgs, partsD, StepR, Out.bind, eVar, eC, eBin, eUn, eIf, eAn, eOrr, eNt, eTup, eLst, lCons, lNil, eB, eLc, eCall, eMl, eMl0, eCut, oNone, oSome, dCut, eGet1, eGet2, eDict, pCons, pNil, eDicK, eDicT, eLrg1, eLrg2, rgIn1, rgIn2, tOf, asB, tTru, truthD, tNt, tAn, tOrr, itE, itD, itRange1, itRange2, itEnum, dAdd, dSub, dMulA, dMul, dFdiv, dMod, dNeg, dCmp, dLt, dLe, dGt, dGe, dIs, dMulI, dAddI, bAbs, bInt, bLen, bMax, bMin, bSum, bTuple, bList, isLst, List.getElem?_cons_zero, List.getElem?_cons_succ, List.getElem?_nil, List.set_cons_zero, List.set_cons_succ, if_true, if_false, Bool.false_eq_true, decide_eq_true_eq, List.map_cons, List.map_nil, List.replicate, List.length_cons, List.length_nil, List.cons_append, List.nil_append, wipeE, q1, q2, decide_true, src_l e1, src_c e1, e2, List.length_map, List.length_append, show ((0 : Int) < ((ys.concat y).length : Nat)) from by simp]
        · simp only [if_true]
          have hlt : s < M'.length ∧ c < M'.length := ⟨(List.getElem?_eq_some_iff.mp e1).1, (List.getElem?_eq_some_iff.mp e2).1⟩
          have hp : mPop (.ref c) [] M' = .ok (.int y) (M'.set c (.lst (ys.map D.int))) := by
            simp only [mPop, e2]
            simp
          have f1 : (M'.set c (.lst (ys.map D.int)))[s]? = some (srcO c l m t) := by rw [List.getElem?_set_ne (Ne.symm ne)]; exact e1
          have hb : pickB [some (.ref s), some (.int many), none, none] M' = .nx [some (.ref s), some (.int many), none, none] ((M'.set c (.lst (ys.map D.int))).set s (srcO c y m t)) := by
            unfold pickB
            simp only [sSeq, sAsg, sPar, setAll, sRet, sRetN, sIf, sExpr, sAug, sSet, sSkip, sFor, sBreak, sCont, OutS.bindE, asg, asgs, partsD, StepR, Out.bind, eVar, eC, eBin, eUn, eIf, eAn, eOrr, eNt, eTup, eLst, lCons, lNil, eB, eLc, eCall, eMl, eMl0, eCut, oNone, oSome, dCut, eGet1, eGet2, eDict, pCons, pNil, eDicK, eDicT, eLrg1, eLrg2, rgIn1, rgIn2, tOf, asB, tTru, truthD, tNt, tAn, tOrr, itE, itD, itRange1, itRange2, itEnum, dAdd, dSub, dMulA, dMul, dFdiv, dMod, dNeg, dCmp, dLt, dLe, dGt, dGe, dIs, dMulI, dAddI, bAbs, bInt, bLen, bMax, bMin, bSum, bTuple, bList, isLst, List.getElem?_cons_zero, List.getElem?_cons_succ, List.getElem?_nil, List.set_cons_zero, List.set_cons_succ, if_true, if_false, Bool.false_eq_true, decide_eq_true_eq, List.map_cons, List.map_nil, List.replicate, List.length_cons, List.length_nil, List.cons_append, List.nil_append, wipeE, src_c e1, e2, hp, src_sl f1]
          rw [hb]
          refine ⟨ys.length, by rw [← e3]; simp, by rw [List.length_concat] at e3; omega, rfl, (b.trans (But.setC _ _)).trans (But.setS _ _), ne, ys, y, m, t, by simp [hlt.1], by rw [List.getElem?_set_ne ne]; simp [hlt.2], rfl⟩
    · refine ⟨false, M', ?_, hR⟩
      unfold pickQ
      simp only [sSeq, sAsg, sPar, setAll, sRet, sRetN, sIf, sExpr, sAug, sSet, sSkip, sFor, sBreak, sCont, OutS.bindE, asg, asgs, partsD, StepR, Out.bind, eVar, eC, eBin, eUn, eIf, eAn, eOrr, eNt, eTup, eLst, lCons, lNil, eB, eLc, eCall, eMl, eMl0, eCut, oNone, oSome, dCut, eGet1, eGet2, eDict, pCons, pNil, eDicK, eDicT, eLrg1, eLrg2, rgIn1, rgIn2, tOf, asB, tTru, truthD, tNt, tAn, tOrr, itE, itD, itRange1, itRange2, itEnum, dAdd, dSub, dMulA, dMul, dFdiv, dMod, dNeg, dCmp, dLt, dLe, dGt, dGe, dIs, dMulI, dAddI, bAbs, bInt, bLen, bMax, bMin, bSum, bTuple, bList, isLst, List.getElem?_cons_zero, List.getElem?_cons_succ, List.getElem?_nil, List.set_cons_zero, List.set_cons_succ, if_true, if_false, Bool.false_eq_true, decide_eq_true_eq, List.map_cons, List.map_nil, List.replicate, List.length_cons, List.length_nil, List.cons_append, List.nil_append, wipeE, q1, q2, decide_true, src_l e1, decide_false]
  · refine ⟨false, M', ?_, hR⟩
    unfold pickQ
    simp only [sSeq, sAsg, sPar, setAll, sRet, sRetN, sIf, sExpr, sAug, sSet, sSkip, sFor, sBreak, sCont, OutS.bindE, asg, asgs, partsD, StepR, Out.bind, eVar, eC, eBin, eUn, eIf, eAn, eOrr, eNt, eTup, eLst, lCons, lNil, eB, eLc, eCall, eMl, eMl0, eCut, oNone, oSome, dCut, eGet1, eGet2, eDict, pCons, pNil, eDicK, eDicT, eLrg1, eLrg2, rgIn1, rgIn2, tOf, asB, tTru, truthD, tNt, tAn, tOrr, itE, itD, itRange1, itRange2, itEnum, dAdd, dSub, dMulA, dMul, dFdiv, dMod, dNeg, dCmp, dLt, dLe, dGt, dGe, dIs, dMulI, dAddI, bAbs, bInt, bLen, bMax, bMin, bSum, bTuple, bList, isLst, List.getElem?_cons_zero, List.getElem?_cons_succ, List.getElem?_nil, List.set_cons_zero, List.set_cons_succ, if_true, if_false, Bool.false_eq_true, decide_eq_true_eq, List.map_cons, List.map_nil, List.replicate, List.length_cons, List.length_nil, List.cons_append, List.nil_append, wipeE, q1, decide_false]
/-- the def, at any level: F is its entry -/
theorem pick_ok {P : List Fn} {k i : Nat} {F : Fn} {M : Store} {s c : Nat} {many : Int} (hF : P[i]? = some F) (hn : F.nn = 4) (hp : F.np = 2) (hb : F.body = fun _ => cPick) (h : Src M s c) (h1 : 1 ≤ many) (h2 : many < 2 ^ 60) :
    ∃ r M', tabOf P (k + 1) i [.ref s, .int many] M = .ok (.int r) M' ∧ 0 ≤ r ∧ r < many ∧ Src M' s c ∧ But s c M M' := by
  obtain ⟨r, M', e, g1, g2, g3, g4⟩ := cPick_ok h h1 h2
  refine ⟨r, M', ?_, g1, g2, g3, g4⟩
  rw [tab_at hF (by rw [hp]; rfl), hb, hn, hp]
  show finS M (cPick [some (.ref s), some (.int many), none, none] M) = _
  rw [e]
  have hk : keptOk M.length M M' = true := keptOk_of g4.len fun j m o e1 e2 => by
    obtain ⟨cs, l, mm, t, a1, a2, _⟩ := g3.at_
    have hlt := g3.lt
    rw [g4.len] at hlt
    by_cases hj : j = s
    · subst hj
      rw [a1] at e2; cases e2
      exact .inr (by simp [srcO, MO.low, lowL, D.low, hlt.2])
    · by_cases hj2 : j = c
      · subst hj2
        rw [a2] at e2; cases e2
        refine .inr ?_
        simp only [MO.low]
        have key : ∀ zs : List Int, lowL M.length (zs.map D.int) = true := fun zs => by
         induction zs with
         | nil => rfl
         | cons x xs ih => simp only [List.map_cons, lowL, D.low, Bool.true_and]; exact ih
        exact key cs
      · rw [g4.at_ j hj hj2, e1] at e2
        exact .inl (Option.some.inj e2).symm
  show gc M (.int r) M' = _
  unfold gc
  rw [if_pos hk, if_pos (show (D.int r).low M.length = true from rfl), ← g4.len, List.take_length]
end Ev
namespace Ev
open PySem L2
theorem lowL_ints (k : Nat) : ∀ L : List Int, lowL k (L.map D.int) = true
  | [] => rfl
  | x :: L => by simp only [List.map_cons, lowL, D.low, Bool.true_and]; exact lowL_ints k L
end Ev
namespace Ev
open PySem L2
/-- a value as a tree; src: the law's source of numbers -/
inductive PV where
  | non | bl (b : Bool) | int (i : Int) | str (x : Str) | tup (xs : List PV) | lst (xs : List PV)
  | dic (ks : List Key) (vs : List PV) | dit (ks : List (List Key)) (vs : List PV) | ins (c : Nat) (ns : List Str) (vs : List PV) | cst (v : V) | src
abbrev SC := Option (Nat × Nat)
abbrev NP := Nat → Prop
mutual
/-- v stands in M as d, and speaks of no place of B -/
def Is (sc : SC) (M : Store) (B : NP) : PV → D → Prop
  | .non, d => d = .non
  | .bl b, d => d = .bl b
  | .int i, d => d = .int i
  | .str x, d => d = .str x
  | .cst v, d => d = .cst v
  | .src, d => ∃ s c, sc = some (s, c) ∧ d = .ref s
  | .tup vs, d => ∃ ds, d = .tup ds ∧ IsL sc M B vs ds ∧ vs.length ≤ cap
  | .lst vs, d => ∃ n ds, d = .ref n ∧ ¬ B n ∧ M[n]? = some (.lst ds) ∧ IsL sc M B vs ds ∧ vs.length ≤ cap
  | .dic ks vs, d => ∃ n kvs, d = .ref n ∧ ¬ B n ∧ M[n]? = some (.dicK kvs) ∧ kvs.map (·.1) = ks ∧ IsL sc M B vs (kvs.map (·.2))
  | .dit ks vs, d => ∃ n kvs, d = .ref n ∧ ¬ B n ∧ M[n]? = some (.dicT kvs) ∧ kvs.map (·.1) = ks ∧ IsL sc M B vs (kvs.map (·.2))
  | .ins c ns vs, d => ∃ n fs, d = .ref n ∧ ¬ B n ∧ M[n]? = some (.ins c fs) ∧ fs.map (·.1) = ns ∧ IsL sc M B vs (fs.map (·.2))
def IsL (sc : SC) (M : Store) (B : NP) : List PV → List D → Prop
  | [], ds => ds = []
  | v :: vs, ds => ∃ d es, ds = d :: es ∧ Is sc M B v d ∧ IsL sc M B vs es
end
/-- what a place holds -/
def Cel (sc : SC) (M : Store) (B : NP) : PV → MO → Prop
  | .lst vs, o => ∃ ds, o = .lst ds ∧ IsL sc M B vs ds ∧ vs.length ≤ cap
  | .dic ks vs, o => ∃ kvs, o = .dicK kvs ∧ kvs.map (·.1) = ks ∧ IsL sc M B vs (kvs.map (·.2))
  | .dit ks vs, o => ∃ kvs, o = .dicT kvs ∧ kvs.map (·.1) = ks ∧ IsL sc M B vs (kvs.map (·.2))
  | .ins c ns vs, o => ∃ fs, o = .ins c fs ∧ fs.map (·.1) = ns ∧ IsL sc M B vs (fs.map (·.2))
  | _, _ => False
section
variable {sc : SC} {M M' : Store} {B B' : NP}
theorem Is.ref {v : PV} {o : MO} {n : Nat} (h : Cel sc M B v o) (hb : ¬ B n) (hn : M[n]? = some o) : Is sc M B v (.ref n) := by
  cases v <;> simp only [Cel] at h
  · obtain ⟨ds, rfl, h1, h2⟩ := h; simp only [Is]; exact ⟨n, ds, rfl, hb, hn, h1, h2⟩
  · obtain ⟨ds, rfl, h1, h2⟩ := h; simp only [Is]; exact ⟨n, ds, rfl, hb, hn, h1, h2⟩
  · obtain ⟨ds, rfl, h1, h2⟩ := h; simp only [Is]; exact ⟨n, ds, rfl, hb, hn, h1, h2⟩
  · obtain ⟨ds, rfl, h1, h2⟩ := h; simp only [Is]; exact ⟨n, ds, rfl, hb, hn, h1, h2⟩
/-- a value at a place is what the place holds, or it is the source -/
theorem Is.cel {v : PV} {n : Nat} (h : Is sc M B v (.ref n)) : (∃ o, ¬ B n ∧ M[n]? = some o ∧ Cel sc M B v o) ∨ (v = .src ∧ ∃ c, sc = some (n, c)) := by
  cases v <;> simp only [Is] at h
  · cases h
  · cases h
  · cases h
  · cases h
  · obtain ⟨ds, h, _⟩ := h; cases h
  · obtain ⟨_, ds, h, h1, h2, h3⟩ := h; cases h; exact .inl ⟨_, h1, h2, ds, rfl, h3⟩
  · obtain ⟨_, ds, h, h1, h2, h3⟩ := h; cases h; exact .inl ⟨_, h1, h2, ds, rfl, h3⟩
  · obtain ⟨_, ds, h, h1, h2, h3⟩ := h; cases h; exact .inl ⟨_, h1, h2, ds, rfl, h3⟩
  · obtain ⟨_, ds, h, h1, h2, h3⟩ := h; cases h; exact .inl ⟨_, h1, h2, ds, rfl, h3⟩
  · cases h
  · obtain ⟨s, c, h1, h2⟩ := h; cases h2; exact .inr ⟨rfl, c, h1⟩
mutual
theorem Is.mono (k : ∀ n o, ¬ B n → M[n]? = some o → ¬ B' n ∧ M'[n]? = some o) : ∀ (v : PV) (d : D), Is sc M B v d → Is sc M' B' v d
  | .non, d, h => by simpa only [Is] using h
  | .bl _, d, h => by simpa only [Is] using h
  | .int _, d, h => by simpa only [Is] using h
  | .str _, d, h => by simpa only [Is] using h
  | .cst _, d, h => by simpa only [Is] using h
  | .src, d, h => by simpa only [Is] using h
  | .tup vs, d, h => by
    simp only [Is] at h ⊢
    obtain ⟨ds, h1, h2, h3⟩ := h
    exact ⟨ds, h1, IsL.mono k vs ds h2, h3⟩
  | .lst vs, d, h => by
    simp only [Is] at h ⊢
    obtain ⟨n, ds, h1, h2, h3, h4, h5⟩ := h
    exact ⟨n, ds, h1, (k n _ h2 h3).1, (k n _ h2 h3).2, IsL.mono k vs ds h4, h5⟩
  | .dic ks vs, d, h => by
    simp only [Is] at h ⊢
    obtain ⟨n, ds, h1, h2, h3, h4, h5⟩ := h
    exact ⟨n, ds, h1, (k n _ h2 h3).1, (k n _ h2 h3).2, h4, IsL.mono k vs _ h5⟩
  | .dit ks vs, d, h => by
    simp only [Is] at h ⊢
    obtain ⟨n, ds, h1, h2, h3, h4, h5⟩ := h
    exact ⟨n, ds, h1, (k n _ h2 h3).1, (k n _ h2 h3).2, h4, IsL.mono k vs _ h5⟩
  | .ins c ns vs, d, h => by
    simp only [Is] at h ⊢
    obtain ⟨n, ds, h1, h2, h3, h4, h5⟩ := h
    exact ⟨n, ds, h1, (k n _ h2 h3).1, (k n _ h2 h3).2, h4, IsL.mono k vs _ h5⟩
theorem IsL.mono (k : ∀ n o, ¬ B n → M[n]? = some o → ¬ B' n ∧ M'[n]? = some o) : ∀ (vs : List PV) (ds : List D), IsL sc M B vs ds → IsL sc M' B' vs ds
  | [], ds, h => by simpa only [IsL] using h
  | v :: vs, ds, h => by
    simp only [IsL] at h ⊢
    obtain ⟨d, es, h1, h2, h3⟩ := h
    exact ⟨d, es, h1, Is.mono k v d h2, IsL.mono k vs es h3⟩
end
theorem Cel.mono (k : ∀ n o, ¬ B n → M[n]? = some o → ¬ B' n ∧ M'[n]? = some o) {v : PV} {o : MO} (h : Cel sc M B v o) : Cel sc M' B' v o := by
  cases v <;> simp only [Cel] at h ⊢
  · obtain ⟨ds, h1, h2, h3⟩ := h; exact ⟨ds, h1, IsL.mono k _ _ h2, h3⟩
  · obtain ⟨ds, h1, h2, h3⟩ := h; exact ⟨ds, h1, h2, IsL.mono k _ _ h3⟩
  · obtain ⟨ds, h1, h2, h3⟩ := h; exact ⟨ds, h1, h2, IsL.mono k _ _ h3⟩
  · obtain ⟨ds, h1, h2, h3⟩ := h; exact ⟨ds, h1, h2, IsL.mono k _ _ h3⟩
theorem IsL.nil : IsL sc M B [] [] := by simp only [IsL]
theorem IsL.cons {v : PV} {vs : List PV} {d : D} {ds : List D} (h : Is sc M B v d) (h' : IsL sc M B vs ds) : IsL sc M B (v :: vs) (d :: ds) := by
  simp only [IsL]; exact ⟨d, ds, rfl, h, h'⟩
theorem IsL.length : ∀ {vs : List PV} {ds : List D}, IsL sc M B vs ds → ds.length = vs.length
  | [], ds, h => by simp only [IsL] at h; subst h; rfl
  | v :: vs, ds, h => by
    simp only [IsL] at h
    obtain ⟨d, es, rfl, _, h3⟩ := h
    simp [h3.length]
theorem IsL.append : ∀ {vs ws : List PV} {ds es : List D}, IsL sc M B vs ds → IsL sc M B ws es → IsL sc M B (vs ++ ws) (ds ++ es)
  | [], ws, ds, es, h, h' => by simp only [IsL] at h; subst h; exact h'
  | v :: vs, ws, ds, es, h, h' => by
    simp only [IsL] at h
    obtain ⟨d, fs, rfl, h2, h3⟩ := h
    exact IsL.cons h2 (h3.append h')
theorem IsL.get : ∀ {vs : List PV} {ds : List D} {i : Nat} {v : PV}, IsL sc M B vs ds → vs[i]? = some v → ∃ d, ds[i]? = some d ∧ Is sc M B v d
  | [], ds, i, v, h, e => by simp at e
  | u :: vs, ds, 0, v, h, e => by
    simp only [IsL] at h
    obtain ⟨d, fs, rfl, h2, h3⟩ := h
    simp at e; subst e
    exact ⟨d, rfl, h2⟩
  | u :: vs, ds, i + 1, v, h, e => by
    simp only [IsL] at h
    obtain ⟨d, fs, rfl, h2, h3⟩ := h
    obtain ⟨x, h4, h5⟩ := h3.get (by simpa using e)
    exact ⟨x, by simpa using h4, h5⟩
theorem IsL.none {vs : List PV} {ds : List D} {i : Nat} (h : IsL sc M B vs ds) (e : vs[i]? = none) : ds[i]? = none := by
  rw [List.getElem?_eq_none_iff] at e ⊢; rw [h.length]; exact e
theorem IsL.take : ∀ {vs : List PV} {ds : List D} (i : Nat), IsL sc M B vs ds → IsL sc M B (vs.take i) (ds.take i)
  | vs, ds, 0, h => by simp; exact IsL.nil
  | [], ds, i + 1, h => by simp only [IsL] at h; subst h; exact IsL.nil
  | u :: vs, ds, i + 1, h => by
    simp only [IsL] at h
    obtain ⟨d, fs, rfl, h2, h3⟩ := h
    exact IsL.cons h2 (h3.take i)
theorem IsL.drop : ∀ {vs : List PV} {ds : List D} (i : Nat), IsL sc M B vs ds → IsL sc M B (vs.drop i) (ds.drop i)
  | vs, ds, 0, h => h
  | [], ds, i + 1, h => by simp only [IsL] at h; subst h; exact IsL.nil
  | u :: vs, ds, i + 1, h => by
    simp only [IsL] at h
    obtain ⟨d, fs, rfl, h2, h3⟩ := h
    exact h3.drop i
theorem IsL.set : ∀ {vs : List PV} {ds : List D} {v : PV} {d : D} (i : Nat), IsL sc M B vs ds → Is sc M B v d → IsL sc M B (vs.set i v) (ds.set i d)
  | [], ds, v, d, i, h, _ => by simp only [IsL] at h; subst h; exact IsL.nil
  | u :: vs, ds, v, d, 0, h, h' => by
    simp only [IsL] at h
    obtain ⟨x, fs, rfl, h2, h3⟩ := h
    exact IsL.cons h' h3
  | u :: vs, ds, v, d, i + 1, h, h' => by
    simp only [IsL] at h
    obtain ⟨x, fs, rfl, h2, h3⟩ := h
    exact IsL.cons h2 (h3.set i h')
theorem IsL.erase : ∀ {vs : List PV} {ds : List D} (i : Nat), IsL sc M B vs ds → IsL sc M B (vs.eraseIdx i) (ds.eraseIdx i)
  | [], ds, i, h => by simp only [IsL] at h; subst h; exact IsL.nil
  | u :: vs, ds, 0, h => by
    simp only [IsL] at h
    obtain ⟨x, fs, rfl, h2, h3⟩ := h
    exact h3
  | u :: vs, ds, i + 1, h => by
    simp only [IsL] at h
    obtain ⟨x, fs, rfl, h2, h3⟩ := h
    exact IsL.cons h2 (h3.erase i)
theorem IsL.dropLast {vs : List PV} {ds : List D} (h : IsL sc M B vs ds) : IsL sc M B vs.dropLast ds.dropLast := by
  rw [List.dropLast_eq_take, List.dropLast_eq_take, h.length]; exact h.take _
theorem IsL.rep {vs : List PV} {ds : List D} (h : IsL sc M B vs ds) : ∀ k : Nat, IsL sc M B (List.replicate k vs).flatten (List.replicate k ds).flatten
  | 0 => IsL.nil
  | k + 1 => by rw [List.replicate_succ, List.replicate_succ, List.flatten_cons, List.flatten_cons]; exact h.append (IsL.rep h k)
theorem IsL.isEmpty {vs : List PV} {ds : List D} (h : IsL sc M B vs ds) : ds.isEmpty = vs.isEmpty := by
  have := h.length
  cases vs <;> cases ds <;> simp_all
def InS (sc : SC) (M : Store) : Prop := ∀ s c, sc = some (s, c) → s < M.length
mutual
theorem Is.low (hs : InS sc M) : ∀ (v : PV) (d : D), Is sc M B v d → d.low M.length = true
  | .non, d, h => by simp only [Is] at h; subst h; rfl
  | .bl _, d, h => by simp only [Is] at h; subst h; rfl
  | .int _, d, h => by simp only [Is] at h; subst h; rfl
  | .str _, d, h => by simp only [Is] at h; subst h; rfl
  | .cst _, d, h => by simp only [Is] at h; subst h; rfl
  | .src, d, h => by
    simp only [Is] at h
    obtain ⟨s, c, h1, rfl⟩ := h
    simp only [D.low, decide_eq_true_eq]; exact hs s c h1
  | .tup vs, d, h => by
    simp only [Is] at h
    obtain ⟨ds, rfl, h2, h3⟩ := h
    simp only [D.low]; exact IsL.low hs vs ds h2
  | .lst vs, d, h => by
    simp only [Is] at h
    obtain ⟨n, ds, rfl, h2, h3, _⟩ := h
    simp only [D.low, decide_eq_true_eq]; exact (List.getElem?_eq_some_iff.mp h3).1
  | .dic ks vs, d, h => by
    simp only [Is] at h
    obtain ⟨n, ds, rfl, h2, h3, _⟩ := h
    simp only [D.low, decide_eq_true_eq]; exact (List.getElem?_eq_some_iff.mp h3).1
  | .dit ks vs, d, h => by
    simp only [Is] at h
    obtain ⟨n, ds, rfl, h2, h3, _⟩ := h
    simp only [D.low, decide_eq_true_eq]; exact (List.getElem?_eq_some_iff.mp h3).1
  | .ins c ns vs, d, h => by
    simp only [Is] at h
    obtain ⟨n, ds, rfl, h2, h3, _⟩ := h
    simp only [D.low, decide_eq_true_eq]; exact (List.getElem?_eq_some_iff.mp h3).1
theorem IsL.low (hs : InS sc M) : ∀ (vs : List PV) (ds : List D), IsL sc M B vs ds → lowL M.length ds = true
  | [], ds, h => by simp only [IsL] at h; subst h; rfl
  | v :: vs, ds, h => by
    simp only [IsL] at h
    obtain ⟨d, es, rfl, h2, h3⟩ := h
    simp only [lowL, Bool.and_eq_true]
    exact ⟨Is.low hs v d h2, IsL.low hs vs es h3⟩
end
theorem Cel.low (hs : InS sc M) {v : PV} {o : MO} (h : Cel sc M B v o) : o.low M.length = true := by
  cases v <;> simp only [Cel] at h
  · obtain ⟨ds, rfl, h1, h2⟩ := h; exact IsL.low hs _ _ h1
  · obtain ⟨ds, rfl, h1, h2⟩ := h; exact IsL.low hs _ _ h2
  · obtain ⟨ds, rfl, h1, h2⟩ := h; exact IsL.low hs _ _ h2
  · obtain ⟨ds, rfl, h1, h2⟩ := h; exact IsL.low hs _ _ h2
mutual
theorem D.low_le {k k' : Nat} (h : k ≤ k') : ∀ d : D, d.low k = true → d.low k' = true
  | .non, _ => rfl
  | .bl _, _ => rfl
  | .int _, _ => rfl
  | .str _, _ => rfl
  | .cst _, _ => rfl
  | .ref n, e => by simp only [D.low, decide_eq_true_eq] at e ⊢; omega
  | .tup ds, e => by simp only [D.low] at e ⊢; exact lowL_le h ds e
  | .ktp ds, e => by simp only [D.low] at e ⊢; exact lowL_le h ds e
theorem lowL_le {k k' : Nat} (h : k ≤ k') : ∀ ds : List D, lowL k ds = true → lowL k' ds = true
  | [], _ => rfl
  | d :: ds, e => by
    simp only [lowL, Bool.and_eq_true] at e ⊢
    exact ⟨D.low_le h d e.1, lowL_le h ds e.2⟩
end
theorem MO.low_le {k k' : Nat} (h : k ≤ k') (o : MO) (e : o.low k = true) : o.low k' = true := by
  cases o <;> exact lowL_le h _ e
/-- each place speaks of places that are there -/
def Wf (M : Store) : Prop := ∀ (n : Nat) (o : MO), M[n]? = some o → o.low M.length = true
theorem Wf.app (h : Wf M) {o : MO} (ho : o.low (M.length + 1) = true) : Wf (M ++ [o]) := fun n u e => by
  rw [List.length_append]
  by_cases hn : n < M.length
  · rw [List.getElem?_append_left hn] at e
    exact MO.low_le (by simp) _ (h n u e)
  · have hn2 : n = M.length := by
      have := (List.getElem?_eq_some_iff.mp e).1
      rw [List.length_append] at this
      simp at this; omega
    subst hn2
    simp at e; subst e
    simpa using ho
theorem Wf.set (h : Wf M) {n : Nat} {o : MO} (ho : o.low M.length = true) : Wf (M.set n o) := fun i u e => by
  rw [List.length_set]
  by_cases hi : n = i
  · subst hi
    have hl : n < M.length := by have := (List.getElem?_eq_some_iff.mp e).1; simpa using this
    rw [List.getElem?_set_self hl] at e
    cases e; exact ho
  · rw [List.getElem?_set_ne hi] at e
    exact h i u e
end
/-- own: a list of the def's own; io: one of the caller's that the def may write; lk: one that it may only read -/
inductive Mode where
  | own | io | lk
  deriving DecidableEq
inductive PSlot where
  | un
  | sh (v : PV)
  | ow (m : Mode) (v : PV)
abbrev PEnv := List PSlot
/-- the places of slots of some modes -/
def FoM (P : Mode → Prop) (eta : Env) (e : PEnv) (n : Nat) : Prop := ∃ (i : Nat) (m : Mode) (v : PV), P m ∧ e[i]? = some (.ow m v) ∧ eta[i]? = some (some (.ref n))
abbrev Fo (eta : Env) (e : PEnv) (n : Nat) : Prop := FoM (fun _ => True) eta e n
/-- .. that may be written -/
abbrev Fw (eta : Env) (e : PEnv) (n : Nat) : Prop := FoM (fun m => m ≠ .lk) eta e n
abbrev Foo (eta : Env) (e : PEnv) (n : Nat) : Prop := FoM (fun m => m = .own) eta e n
def Bd (Av : NP) (eta : Env) (e : PEnv) : NP := fun n => Av n ∨ Fo eta e n
def isSrc (sc : SC) (n : Nat) : Prop := ∃ s c, sc = some (s, c) ∧ (n = s ∨ n = c)
structure Rel (sc : SC) (Av : NP) (M : Store) (eta : Env) (e : PEnv) : Prop where
  len : eta.length = e.length
  wf : Wf M
  src : ∀ s c, sc = some (s, c) → Src M s c
  asrc : ∀ (n : Nat), isSrc sc n → Av n
  av : ∀ (n : Nat), Av n → n < M.length
  sh : ∀ (i : Nat) (v : PV), e[i]? = some (.sh v) → ∃ d, eta[i]? = some (some d) ∧ Is sc M (Bd Av eta e) v d
  ow : ∀ (i : Nat) (m : Mode) (v : PV), e[i]? = some (.ow m v) → ∃ n o, eta[i]? = some (some (.ref n)) ∧ ¬ Av n ∧ M[n]? = some o ∧ Cel sc M (Bd Av eta e) v o
  dj : ∀ (i j : Nat) (m : Mode) (v : PV) (m' : Mode) (v' : PV) (n : Nat), e[i]? = some (.ow m v) → e[j]? = some (.ow m' v') → eta[i]? = some (some (.ref n)) → eta[j]? = some (some (.ref n)) → i = j
/-- from one state to a later one -/
structure Rs (sc : SC) (Av : NP) (M : Store) (eta : Env) (e : PEnv) (M' : Store) (eta' : Env) (e' : PEnv) : Prop where
  rel : Rel sc Av M' eta' e'
  fo : ∀ (P : Mode → Prop) (n : Nat), FoM P eta' e' n → FoM P eta e n ∨ M.length ≤ n
  le : M.length ≤ M'.length
  fr : ∀ (n : Nat), n < M.length → ¬ Fw eta e n → ¬ isSrc sc n → M'[n]? = M[n]?
  io : ∀ (i : Nat) (m : Mode) (v : PV), m ≠ .own → e[i]? = some (.ow m v) → (∃ v', e'[i]? = some (.ow m v')) ∧ eta'[i]? = eta[i]?
  oi : ∀ (i : Nat) (m : Mode) (v : PV), m ≠ .own → e'[i]? = some (.ow m v) → ∃ v', e[i]? = some (.ow m v')
section
variable {sc : SC} {Av : NP} {M M1 M2 : Store} {eta eta1 eta2 : Env} {e e1 e2 : PEnv}
theorem Rel.ins (R : Rel sc Av M eta e) : InS sc M := fun s c h => (R.src s c h).lt.1
theorem Rel.fo_lt (R : Rel sc Av M eta e) {P : Mode → Prop} {n : Nat} (h : FoM P eta e n) : n < M.length := by
  obtain ⟨i, m, v, _, h1, h2⟩ := h
  obtain ⟨n', o, h3, _, h4, _⟩ := R.ow i m v h1
  rw [h2] at h3; cases h3
  exact (List.getElem?_eq_some_iff.mp h4).1
theorem Rel.fo_av (R : Rel sc Av M eta e) {P : Mode → Prop} {n : Nat} (h : FoM P eta e n) : ¬ Av n := by
  obtain ⟨i, m, v, _, h1, h2⟩ := h
  obtain ⟨n', o, h3, h5, h4, _⟩ := R.ow i m v h1
  rw [h2] at h3; cases h3
  exact h5
theorem FoM.imp {P Q : Mode → Prop} {n : Nat} (h : FoM P eta e n) (k : ∀ m, P m → Q m) : FoM Q eta e n := by
  obtain ⟨i, m, v, h0, h1, h2⟩ := h
  exact ⟨i, m, v, k m h0, h1, h2⟩
theorem Rel.bd_lt (R : Rel sc Av M eta e) {n : Nat} (h : Bd Av eta e n) : n < M.length := h.elim (R.av n) R.fo_lt
theorem Rs.refl (R : Rel sc Av M eta e) : Rs sc Av M eta e M eta e :=
  ⟨R, fun P n h => .inl h, Nat.le_refl _, fun _ _ _ _ => rfl, fun i m v _ h => ⟨⟨v, h⟩, rfl⟩, fun i m v _ h => ⟨v, h⟩⟩
theorem Rs.trans (a : Rs sc Av M eta e M1 eta1 e1) (b : Rs sc Av M1 eta1 e1 M2 eta2 e2) : Rs sc Av M eta e M2 eta2 e2 := by
  refine ⟨b.rel, fun P n h => ?_, Nat.le_trans a.le b.le, fun n h1 h2 h3 => ?_, fun i m v hm h => ?_, fun i m v hm h => ?_⟩
  · rcases b.fo P n h with h | h
    · exact a.fo P n h
    · exact .inr (Nat.le_trans a.le h)
  · rw [b.fr n (Nat.lt_of_lt_of_le h1 a.le) (fun q => ?_) h3, a.fr n h1 h2 h3]
    rcases a.fo _ n q with z | z
    · exact h2 z
    · omega
  · obtain ⟨⟨v', h1⟩, h2⟩ := a.io i m v hm h
    obtain ⟨h3, h4⟩ := b.io i m v' hm h1
    exact ⟨h3, h4.trans h2⟩
  · obtain ⟨v', h1⟩ := b.oi i m v hm h
    exact a.oi i m v' hm h1
/-- what is held stays -/
theorem Rs.keep (a : Rs sc Av M eta e M1 eta1 e1) (R : Rel sc Av M eta e) : ∀ (n : Nat) (o : MO), ¬ Bd Av eta e n → M[n]? = some o → ¬ Bd Av eta1 e1 n ∧ M1[n]? = some o := fun n o hb hn => by
  have hl := (List.getElem?_eq_some_iff.mp hn).1
  refine ⟨fun h => ?_, ?_⟩
  · rcases h with h | h
    · exact hb (.inl h)
    · rcases a.fo _ n h with z | z
      · exact hb (.inr z)
      · omega
  · rw [a.fr n hl (fun q => hb (.inr (q.imp fun _ _ => trivial))) (fun q => hb (.inl (R.asrc n q)))]; exact hn
theorem Rs.is (a : Rs sc Av M eta e M1 eta1 e1) (R : Rel sc Av M eta e) {v : PV} {d : D} (h : Is sc M (Bd Av eta e) v d) : Is sc M1 (Bd Av eta1 e1) v d := Is.mono (a.keep R) v d h
theorem Rs.isL (a : Rs sc Av M eta e M1 eta1 e1) (R : Rel sc Av M eta e) {v : List PV} {d : List D} (h : IsL sc M (Bd Av eta e) v d) : IsL sc M1 (Bd Av eta1 e1) v d := IsL.mono (a.keep R) v d h
end
inductive C (α : Type) where
  | ret (a : α)
  | exc (x : Nat) (ns : List Str) (vs : List PV) (e : PEnv)
  | draw (k : Nat) (f : Nat → C α)
  | bad
def C.bind {α β : Type} : C α → (α → C β) → C β
  | .ret a, g => g a
  | .exc x ns vs e, _ => .exc x ns vs e
  | .draw k f, g => .draw k fun i => (f i).bind g
  | .bad, _ => .bad
/-- all ends are good ones -/
def C.All {α : Type} (Q : α → Prop) : C α → Prop
  | .ret a => Q a
  | .exc _ _ _ _ => False
  | .draw k f => ∀ i, i < k → (f i).All Q
  | .bad => False
abbrev XR := Nat → List (Str × D) → Store → List Str → List PV → PEnv → Prop
/-- a run's outcome is one of a computation's ends -/
def Ok {α β : Type} (R : β → Store → α → Prop) (X : XR) (o : Out β) : C α → Prop
  | .ret a => ∃ b M', o = .ok b M' ∧ R b M' a
  | .exc x ns vs e => ∃ fs M', o = .exc x fs M' ∧ X x fs M' ns vs e
  | .draw k f => ∃ i, i < k ∧ Ok R X o (f i)
  | .bad => True
theorem Ok.imp {α β : Type} {R R' : β → Store → α → Prop} {X X' : XR} {o : Out β} : ∀ {c : C α}, Ok R X o c → (∀ b M a, R b M a → R' b M a) → (∀ x fs M ns vs e, X x fs M ns vs e → X' x fs M ns vs e) → Ok R' X' o c
  | .ret a, h, k, kx => by obtain ⟨b, M', h1, h2⟩ := h; exact ⟨b, M', h1, k _ _ _ h2⟩
  | .exc x ns vs e, h, k, kx => by obtain ⟨fs, M', h1, h2⟩ := h; exact ⟨fs, M', h1, kx _ _ _ _ _ _ h2⟩
  | .draw n f, h, k, kx => by obtain ⟨i, hi, h⟩ := h; exact ⟨i, hi, Ok.imp h k kx⟩
  | .bad, _, _, _ => trivial
theorem Ok.bind {α β α' β' : Type} {R : β → Store → α → Prop} {R' : β' → Store → α' → Prop} {X X' : XR} {o : Out β} {g : β → Store → Out β'} {q : α → C α'} : ∀ {c : C α}, Ok R X o c → (∀ b M a, R b M a → Ok R' X' (g b M) (q a)) →
    (∀ x fs M ns vs e, X x fs M ns vs e → X' x fs M ns vs e) → Ok R' X' (o.bind g) (c.bind q)
  | .ret a, h, k, kx => by obtain ⟨b, M', rfl, h2⟩ := h; exact k _ _ _ h2
  | .exc x ns vs e, h, k, kx => by obtain ⟨fs, M', rfl, h2⟩ := h; exact ⟨fs, M', rfl, kx _ _ _ _ _ _ h2⟩
  | .draw n f, h, k, kx => by obtain ⟨i, hi, h⟩ := h; exact ⟨i, hi, Ok.bind h k kx⟩
  | .bad, _, _, _ => trivial
theorem Ok.all {α β : Type} {R : β → Store → α → Prop} {X : XR} {o : Out β} {Q : α → Prop} : ∀ {c : C α}, Ok R X o c → c.All Q → ∃ b M a, o = .ok b M ∧ R b M a ∧ Q a
  | .ret a, h, q => by obtain ⟨b, M', h1, h2⟩ := h; exact ⟨b, M', a, h1, h2, q⟩
  | .exc x ns vs e, h, q => q.elim
  | .draw n f, h, q => by obtain ⟨i, hi, h⟩ := h; exact Ok.all h (q i hi)
  | .bad, _, q => q.elim
end Ev
namespace Ev
open PySem L2
abbrev PX := Bool × PV × PEnv
abbrev PExp := PEnv → C PX
abbrev PStop := PEnv → C (Bool × PEnv)
section
variable {sc : SC} {Av Av' : NP} {M M1 M' : Store} {eta eta' : Env} {e e1 e' : PEnv}
/-- fewer places are forbidden -/
theorem Rel.less (R : Rel sc Av M eta e) (h : ∀ n, Av' n → Av n) (hs : ∀ n, isSrc sc n → Av' n) : Rel sc Av' M eta e :=
  have hb : ∀ n, Bd Av' eta e n → Bd Av eta e n := fun n z => z.elim (fun q => .inl (h n q)) .inr
  ⟨R.len, R.wf, R.src, hs, fun n z => R.av n (h n z), fun i v z => let ⟨d, h1, h2⟩ := R.sh i v z; ⟨d, h1, Is.mono (fun n o a b => ⟨fun q => a (hb n q), b⟩) v d h2⟩,
    fun i m v z => let ⟨n, o, h1, h2, h3, h4⟩ := R.ow i m v z; ⟨n, o, h1, fun q => h2 (h n q), h3, Cel.mono (fun n o a b => ⟨fun q => a (hb n q), b⟩) h4⟩, R.dj⟩
theorem Src.keep {M M' : Store} {s c : Nat} (h : Src M s c) (k : ∀ n, n < M.length → M'[n]? = M[n]?) : Src M' s c := by
  obtain ⟨cs, l, m, t, h1, h2, h3⟩ := h.at_
  have := h.lt
  exact ⟨h.ne, cs, l, m, t, (k s this.1).trans h1, (k c this.2).trans h2, h3⟩
/-- a new place, forbidden to all that is there -/
theorem Rel.grow (R : Rel sc Av M eta e) {o : MO} (ho : o.low (M.length + 1) = true) : Rel sc (fun n => Av n ∨ n = M.length) (M ++ [o]) eta e := by
  have key : ∀ n (u : MO), ¬ Bd Av eta e n → M[n]? = some u → ¬ Bd (fun n => Av n ∨ n = M.length) eta e n ∧ (M ++ [o])[n]? = some u := fun n u hb hn => by
    have hl := (List.getElem?_eq_some_iff.mp hn).1
    refine ⟨fun z => ?_, app_old hn _⟩
    rcases z with (z | z) | z
    · exact hb (.inl z)
    · omega
    · exact hb (.inr z)
  refine ⟨R.len, R.wf.app ho, fun s c h => (R.src s c h).app _, fun n h => .inl (R.asrc n h), fun n h => ?_, fun i v h => ?_, fun i m v h => ?_, R.dj⟩
  · rw [List.length_append]
    rcases h with h | h
    · have := R.av n h; omega
    · simp; omega
  · obtain ⟨d, h1, h2⟩ := R.sh i v h
    exact ⟨d, h1, Is.mono key v d h2⟩
  · obtain ⟨n, u, h1, h2, h3, h4⟩ := R.ow i m v h
    have hl := (List.getElem?_eq_some_iff.mp h3).1
    exact ⟨n, u, h1, fun z => z.elim h2 (fun z => by omega), app_old h3 _, Cel.mono key h4⟩
theorem Rs.grow {S : Store} {eS : Env} {pS : PEnv} (R : Rs sc Av S eS pS M eta e) {o : MO} (ho : o.low (M.length + 1) = true) : Rs sc Av S eS pS (M ++ [o]) eta e :=
  ⟨(R.rel.grow ho).less (fun n h => .inl h) R.rel.asrc, R.fo, by rw [List.length_append]; have := R.le; omega, fun n h1 h2 h3 => by
    rw [List.getElem?_append_left (Nat.lt_of_lt_of_le h1 R.le)]; exact R.fr n h1 h2 h3, R.io, R.oi⟩
end
def VR (sc : SC) (Av : NP) (k : Nat) (M' : Store) (eta : Env) (e' : PEnv) (w : Bool) (v : PV) (d : D) : Prop :=
  if w = true then ∃ n o, d = .ref n ∧ k ≤ n ∧ ¬ Av n ∧ M'[n]? = some o ∧ Rel sc (fun j => Av j ∨ j = n) M' eta e' ∧ Cel sc M' (Bd (fun j => Av j ∨ j = n) eta e') v o
  else Is sc M' (Bd Av eta e') v d
def RE (sc : SC) (Av : NP) (M : Store) (eta : Env) (e : PEnv) : D → Store → PX → Prop := fun d M' r => Rs sc Av M eta e M' eta r.2.2 ∧ VR sc Av M.length M' eta r.2.2 r.1 r.2.1 d
def XE (sc : SC) (Av : NP) (M : Store) (eta : Env) (e : PEnv) : XR := fun _ fs M' ns vs e' => Rs sc Av M eta e M' eta e' ∧ fs.map (·.1) = ns ∧ IsL sc M' (Bd Av eta e') vs (fs.map (·.2))
def RT (sc : SC) (Av : NP) (M : Store) (eta : Env) (e : PEnv) : Bool → Store → Bool × PEnv → Prop := fun b M' r => Rs sc Av M eta e M' eta r.2 ∧ b = r.1
structure SE (sc : SC) (f : EvE) (p : PExp)  : Prop where
  go : ∀ (Av : NP) (M : Store) (eta : Env) (e : PEnv), Rel sc Av M eta e → Ok (RE sc Av M eta e) (XE sc Av M eta e) (f eta M) (p e)
instance {sc : SC} {f : EvE} {p : PExp} : CoeFun (SE sc f p) (fun _ => ∀ (Av : NP) (M : Store) (eta : Env) (e : PEnv), Rel sc Av M eta e → Ok (RE sc Av M eta e) (XE sc Av M eta e) (f eta M) (p e)) := ⟨SE.go⟩
structure ST (sc : SC) (f : EvT) (p : PStop)  : Prop where
  go : ∀ (Av : NP) (M : Store) (eta : Env) (e : PEnv), Rel sc Av M eta e → Ok (RT sc Av M eta e) (XE sc Av M eta e) (f eta M) (p e)
instance {sc : SC} {f : EvT} {p : PStop} : CoeFun (ST sc f p) (fun _ => ∀ (Av : NP) (M : Store) (eta : Env) (e : PEnv), Rel sc Av M eta e → Ok (RT sc Av M eta e) (XE sc Av M eta e) (f eta M) (p e)) := ⟨ST.go⟩
section
variable {sc : SC} {Av : NP} {M M1 M' : Store} {eta eta' : Env} {e e1 e' : PEnv}
theorem VR.is {k : Nat} {w : Bool} {v : PV} {d : D} (h : VR sc Av k M' eta e' w v d) : Is sc M' (Bd Av eta e') v d := by
  unfold VR at h
  cases w with
  | false => simpa using h
  | true =>
    simp only [if_true] at h
    obtain ⟨n, o, rfl, h1, h2, h3, R, h4⟩ := h
    refine Is.ref (Cel.mono (fun i u a b => ⟨fun z => a (z.elim (fun q => .inl (.inl q)) .inr), b⟩) h4) (fun z => z.elim h2 fun q => R.fo_av q (.inr rfl)) h3
theorem VR.sh {k : Nat} {v : PV} {d : D} (h : Is sc M' (Bd Av eta e') v d) : VR sc Av k M' eta e' false v d := by simpa [VR] using h
theorem VR.le {k k' : Nat} {w : Bool} {v : PV} {d : D} (h : VR sc Av k M' eta e' w v d) (hk : k' ≤ k) : VR sc Av k' M' eta e' w v d := by
  unfold VR at h ⊢
  cases w with
  | false => simpa using h
  | true =>
    simp only [if_true] at h ⊢
    obtain ⟨n, o, h0, h1, h2⟩ := h
    exact ⟨n, o, h0, Nat.le_trans hk h1, h2⟩
/-- a new place as a fresh value -/
theorem VR.new {k : Nat} {v : PV} {o : MO} (R : Rel sc Av M eta e) (hk : k ≤ M.length) (h : Cel sc M (Bd Av eta e) v o) : VR sc Av k (M ++ [o]) eta e true v (.ref M.length) := by
  have hlow : o.low (M.length + 1) = true := MO.low_le (Nat.le_succ _) _ (h.low R.ins)
  unfold VR
  simp only [if_true]
  refine ⟨M.length, o, rfl, hk, fun z => ?_, by simp, R.grow hlow, Cel.mono (fun n u a b => ?_) h⟩
  · have := R.av _ z; omega
  · have hl := (List.getElem?_eq_some_iff.mp b).1
    refine ⟨fun z => ?_, app_old b _⟩
    rcases z with (z | z) | z
    · exact a (.inl z)
    · omega
    · exact a (.inr z)
theorem XE.mono {S : Store} {eS : PEnv} (a : Rs sc Av S eta eS M eta e) : ∀ x fs M' ns vs e', XE sc Av M eta e x fs M' ns vs e' → XE sc Av S eta eS x fs M' ns vs e' := fun x fs M' ns vs e' h => ⟨a.trans h.1, h.2⟩
/-- an expression, then what comes behind -/
theorem SE.then_ {α β : Type} {f : EvE} {p : PExp} {g : D → Store → Out β} {q : PX → C α} {S : Store} {eS : PEnv} {R' : β → Store → α → Prop} (h : SE sc f p) (a : Rs sc Av S eta eS M eta e)
    (k : ∀ d M' w v e', Rs sc Av S eta eS M' eta e' → Rs sc Av M eta e M' eta e' → VR sc Av S.length M' eta e' w v d → Ok R' (XE sc Av S eta eS) (g d M') (q (w, v, e'))) : Ok R' (XE sc Av S eta eS) ((f eta M).bind g) ((p e).bind q) :=
  Ok.bind (h Av M eta e a.rel) (fun d M' r ⟨h1, h2⟩ => k d M' r.1 r.2.1 r.2.2 (a.trans h1) h1 (h2.le a.le)) (XE.mono a)
theorem ST.then_ {α β : Type} {f : EvT} {p : PStop} {g : Bool → Store → Out β} {q : Bool × PEnv → C α} {S : Store} {eS : PEnv} {R' : β → Store → α → Prop} (h : ST sc f p) (a : Rs sc Av S eta eS M eta e)
    (k : ∀ b M' e', Rs sc Av S eta eS M' eta e' → Rs sc Av M eta e M' eta e' → Ok R' (XE sc Av S eta eS) (g b M') (q (b, e'))) : Ok R' (XE sc Av S eta eS) ((f eta M).bind g) ((p e).bind q) :=
  Ok.bind (h Av M eta e a.rel) (fun b M' r ⟨h1, h2⟩ => by
    have := k r.1 M' r.2 (a.trans h1) h1
    rw [h2]; exact this) (XE.mono a)
end
def pC (v : PV) : PExp := fun e => .ret (false, v, e)
/-- a name: what is own is given away -/
def pVar (i : Nat) : PExp := fun e => match e[i]? with
  | some (.sh v) => .ret (false, v, e)
  | some (.ow .own v) => .ret (false, v, e.set i (.sh v))
  | _ => .bad
section
variable {sc : SC}
theorem se_c {v : PV} {d : D} (h : ∀ M B, Is sc M B v d) : SE sc (eC d) (pC v) := .mk fun Av M eta e R => ⟨d, M, rfl, Rs.refl R, VR.sh (h _ _)⟩
theorem se_int {i : Int} : SE sc (eC (.int i)) (pC (.int i)) := se_c fun _ _ => by simp [Is]
theorem se_bl {i : Bool} : SE sc (eC (.bl i)) (pC (.bl i)) := se_c fun _ _ => by simp [Is]
theorem se_non : SE sc (eC .non) (pC .non) := se_c fun _ _ => by simp [Is]
theorem se_str {i : Str} : SE sc (eC (.str i)) (pC (.str i)) := se_c fun _ _ => by simp [Is]
theorem se_cst {i : V} : SE sc (eC (.cst i)) (pC (.cst i)) := se_c fun _ _ => by simp [Is]
/-- an own slot is given away -/
theorem Rel.freeze {Av : NP} {M : Store} {eta : Env} {e : PEnv} (R : Rel sc Av M eta e) {i : Nat} {m : Mode} {v : PV} (h : e[i]? = some (.ow m v)) :
    (∀ (P : Mode → Prop) n, FoM P eta (e.set i (.sh v)) n → FoM P eta e n) ∧ Rel sc Av M eta (e.set i (.sh v)) ∧ ∃ n, eta[i]? = some (some (.ref n)) ∧ Is sc M (Bd Av eta (e.set i (.sh v))) v (.ref n) := by
  have hi : i < e.length := (List.getElem?_eq_some_iff.mp h).1
  have hfo : ∀ (P : Mode → Prop) n, FoM P eta (e.set i (.sh v)) n → FoM P eta e n := fun P n ⟨j, m', v', h0, h1, h2⟩ => by
    by_cases hj : i = j
    · subst hj
      rw [List.getElem?_set_self hi] at h1
      cases h1
    · rw [List.getElem?_set_ne hj] at h1
      exact ⟨j, m', v', h0, h1, h2⟩
  have hb : ∀ n, Bd Av eta (e.set i (.sh v)) n → Bd Av eta e n := fun n z => z.elim .inl fun q => .inr (hfo _ _ q)
  have key : ∀ n (u : MO), ¬ Bd Av eta e n → M[n]? = some u → ¬ Bd Av eta (e.set i (.sh v)) n ∧ M[n]? = some u := fun n u a b => ⟨fun z => a (hb n z), b⟩
  obtain ⟨n, o, h1, h2, h3, h4⟩ := R.ow i m v h
  have hv : Is sc M (Bd Av eta (e.set i (.sh v))) v (.ref n) := by
    refine Is.ref (Cel.mono key h4) (fun z => ?_) h3
    rcases z with z | ⟨j, m', v', h0, g1, g2⟩
    · exact h2 z
    · by_cases hj : i = j
      · subst hj
        rw [List.getElem?_set_self hi] at g1
        cases g1
      · rw [List.getElem?_set_ne hj] at g1
        exact hj (R.dj i j _ _ _ _ n h g1 h1 g2)
  refine ⟨hfo, ⟨by rw [List.length_set]; exact R.len, R.wf, R.src, R.asrc, R.av, fun j u z => ?_, fun j m' u z => ?_, fun j l m1 v1 m2 v2 k a b c d => ?_⟩, n, h1, hv⟩
  · by_cases hj : i = j
    · subst hj
      rw [List.getElem?_set_self hi] at z
      cases z
      exact ⟨_, h1, hv⟩
    · rw [List.getElem?_set_ne hj] at z
      obtain ⟨d, g1, g2⟩ := R.sh j u z
      exact ⟨d, g1, Is.mono key _ _ g2⟩
  · by_cases hj : i = j
    · subst hj
      rw [List.getElem?_set_self hi] at z
      cases z
    · rw [List.getElem?_set_ne hj] at z
      obtain ⟨n', o', g1, g2, g3, g4⟩ := R.ow j m' u z
      exact ⟨n', o', g1, g2, g3, Cel.mono key g4⟩
  · by_cases hj : i = j
    · subst hj
      rw [List.getElem?_set_self hi] at a
      cases a
    · by_cases hl : i = l
      · subst hl
        rw [List.getElem?_set_self hi] at b
        cases b
      · rw [List.getElem?_set_ne hj] at a
        rw [List.getElem?_set_ne hl] at b
        exact R.dj j l _ _ _ _ k a b c d
theorem se_var {i : Nat} : SE sc (eVar i) (pVar i) := .mk fun Av M eta e R => by
  unfold pVar eVar
  cases h : e[i]? with
  | none => trivial
  | some sl =>
    cases sl with
    | un => trivial
    | sh v =>
      obtain ⟨d, h1, h2⟩ := R.sh i v h
      rw [h1]
      exact ⟨d, M, rfl, Rs.refl R, VR.sh h2⟩
    | ow m v =>
      cases m with
      | io => trivial
      | lk => trivial
      | own =>
        obtain ⟨hfo, R', n, h1, h2⟩ := R.freeze h
        rw [h1]
        refine ⟨_, M, rfl, ⟨R', fun P n z => .inl (hfo P n z), Nat.le_refl _, fun _ _ _ _ => rfl, fun j m u hm z => ⟨⟨u, ?_⟩, rfl⟩, fun j m u hm z => ⟨u, ?_⟩⟩, VR.sh h2⟩
        · have hij : i ≠ j := fun q => by subst q; rw [h] at z; cases z; exact hm rfl
          rw [List.getElem?_set_ne hij]; exact z
        · by_cases hij : i = j
          · subst hij
            rw [List.getElem?_set_self (List.getElem?_eq_some_iff.mp h).1] at z; cases z
          · rw [List.getElem?_set_ne hij] at z; exact z
end
inductive PA where
  | v (x : PV)
  | s (i : Nat)
inductive POpd where
  | ex (p : PExp)
  | bor (i : Nat)
  | st (p : PExp)
  | stb (i : Nat)
abbrev POps := List POpd
def PSlot.there : Option PSlot → Bool
  | some (.sh _) => true
  | some (.ow _ _) => true
  | _ => false
/-- what *v stands for -/
def itmP : PV → Option (List PV)
  | .tup vs => some vs
  | .lst vs => some vs
  | _ => none
def itmS : Option PSlot → Option (List PV)
  | some (.sh v) => itmP v
  | some (.ow _ v) => itmP v
  | _ => none
def pOps : POps → PEnv → C (List PA × PEnv)
  | [], e => .ret ([], e)
  | .ex p :: q, e => (p e).bind fun r => (pOps q r.2.2).bind fun s => .ret (.v r.2.1 :: s.1, s.2)
  | .bor i :: q, e => if PSlot.there e[i]? = true then (pOps q e).bind fun s => .ret (.s i :: s.1, s.2) else .bad
  | .st p :: q, e => (p e).bind fun r => match itmP r.2.1 with
    | some vs => (pOps q r.2.2).bind fun s => .ret (vs.map .v ++ s.1, s.2)
    | none => .bad
  | .stb i :: q, e => match itmS e[i]? with
    | some vs => (pOps q e).bind fun s => .ret (vs.map .v ++ s.1, s.2)
    | none => .bad
def rdA (e : PEnv) : PA → Option PV
  | .v x => some x
  | .s i => match e[i]? with
    | some (.sh v) => some v
    | some (.ow _ v) => some v
    | _ => none
def rdAs (e : PEnv) : List PA → Option (List PV)
  | [] => some []
  | a :: as => match rdA e a, rdAs e as with
    | some v, some vs => some (v :: vs)
    | _, _ => none
def IsB (sc : SC) (M : Store) (B : NP) (v : PV) (d : D) : Prop := Is sc M B v d ∨ ∃ n o, d = .ref n ∧ M[n]? = some o ∧ Cel sc M B v o
def IsBL (sc : SC) (M : Store) (B : NP) : List PV → List D → Prop
  | [], ds => ds = []
  | v :: vs, ds => ∃ d es, ds = d :: es ∧ IsB sc M B v d ∧ IsBL sc M B vs es
def AR (sc : SC) (Av : NP) (M : Store) (eta : Env) (e : PEnv) : List PA → List D → Prop
  | [], ds => ds = []
  | .v x :: as, ds => ∃ d es, ds = d :: es ∧ Is sc M (Bd Av eta e) x d ∧ AR sc Av M eta e as es
  | .s i :: as, ds => ∃ d es, ds = d :: es ∧ eta[i]? = some (some d) ∧ AR sc Av M eta e as es
def RL (sc : SC) (Av : NP) (M : Store) (eta : Env) (e : PEnv) : List D → Store → List PA × PEnv → Prop := fun ds M' r => Rs sc Av M eta e M' eta r.2 ∧ AR sc Av M' eta r.2 r.1 ds
structure SL (sc : SC) (g : EvL) (q : POps)  : Prop where
  go : ∀ (Av : NP) (M : Store) (eta : Env) (e : PEnv), Rel sc Av M eta e → Ok (RL sc Av M eta e) (XE sc Av M eta e) (g eta M) (pOps q e)
instance {sc : SC} {g : EvL} {q : POps} : CoeFun (SL sc g q) (fun _ => ∀ (Av : NP) (M : Store) (eta : Env) (e : PEnv), Rel sc Av M eta e → Ok (RL sc Av M eta e) (XE sc Av M eta e) (g eta M) (pOps q e)) := ⟨SL.go⟩
section
variable {sc : SC} {Av : NP} {M M1 M' : Store} {eta eta' : Env} {e e1 e' : PEnv}
theorem SL.then_ {α β : Type} {f : EvL} {p : POps} {g : List D → Store → Out β} {q : List PA × PEnv → C α} {S : Store} {eS : PEnv} {R' : β → Store → α → Prop} (h : SL sc f p) (a : Rs sc Av S eta eS M eta e)
    (k : ∀ ds M' as e', Rs sc Av S eta eS M' eta e' → Rs sc Av M eta e M' eta e' → AR sc Av M' eta e' as ds → Ok R' (XE sc Av S eta eS) (g ds M') (q (as, e'))) : Ok R' (XE sc Av S eta eS) ((f eta M).bind g) ((pOps p e).bind q) :=
  Ok.bind (h Av M eta e a.rel) (fun d M' r ⟨h1, h2⟩ => k d M' r.1 r.2 (a.trans h1) h1 h2) (XE.mono a)
theorem sl_nil : SL sc lNil [] := .mk fun Av M eta e R => ⟨[], M, rfl, Rs.refl R, by simp only [AR]⟩
theorem sl_ex {f : EvE} {p : PExp} {g : EvL} {q : POps} (h : SE sc f p) (h' : SL sc g q) : SL sc (lCons f g) (.ex p :: q) := .mk fun Av M eta e R => by
  unfold lCons pOps
  refine h.then_ (Rs.refl R) fun d M1 w v e1 a _ hv => ?_
  refine h'.then_ a fun ds M2 as e2 a2 b2 har => ?_
  exact ⟨_, _, rfl, a2, by simp only [AR]; exact ⟨d, ds, rfl, b2.is a.rel hv.is, har⟩⟩
theorem sl_bor {i : Nat} {g : EvL} {q : POps} (h' : SL sc g q) : SL sc (lCons (eVar i) g) (.bor i :: q) := .mk fun Av M eta e R => by
  unfold lCons pOps
  by_cases ht : PSlot.there e[i]? = true
  · rw [if_pos ht]
    obtain ⟨d, hd⟩ : ∃ d, eta[i]? = some (some d) := by
      cases h : e[i]? with
      | none => rw [h] at ht; cases ht
      | some sl =>
        cases sl with
        | un => rw [h] at ht; cases ht
        | sh v => obtain ⟨d, h1, _⟩ := R.sh i v h; exact ⟨d, h1⟩
        | ow m v => obtain ⟨n, o, h1, _⟩ := R.ow i m v h; exact ⟨_, h1⟩
    have e1 : eVar i eta M = .ok d M := by unfold eVar; rw [hd]
    rw [e1]
    show Ok _ _ ((g eta M).bind _) _
    refine h'.then_ (Rs.refl R) fun ds M2 as e2 a2 b2 har => ?_
    exact ⟨_, _, rfl, a2, by simp only [AR]; exact ⟨d, ds, rfl, hd, har⟩⟩
  · rw [if_neg ht]; trivial
theorem rdA_ok (R : Rel sc Av M eta e) {i : Nat} {v : PV} {d : D} (h : rdA e (.s i) = some v) (hd : eta[i]? = some (some d)) : IsB sc M (Bd Av eta e) v d := by
  simp only [rdA] at h
  cases q : e[i]? with
  | none => rw [q] at h; cases h
  | some sl =>
    rw [q] at h
    cases sl with
    | un => cases h
    | sh u =>
      cases h
      obtain ⟨d', h1, h2⟩ := R.sh i _ q
      rw [hd] at h1; cases h1
      exact .inl h2
    | ow m u =>
      cases h
      obtain ⟨n, o, h1, h2, h3, h4⟩ := R.ow i m _ q
      rw [hd] at h1; cases h1
      exact .inr ⟨n, o, rfl, h3, h4⟩
theorem rdAs_ok (R : Rel sc Av M eta e) : ∀ {as : List PA} {ds : List D} {vs : List PV}, AR sc Av M eta e as ds → rdAs e as = some vs → IsBL sc M (Bd Av eta e) vs ds
  | [], ds, vs, h, q => by
    simp only [AR] at h; simp only [rdAs] at q
    cases q; subst h; simp only [IsBL]
  | .v x :: as, ds, vs, h, q => by
    simp only [AR] at h
    obtain ⟨d, es, rfl, h1, h2⟩ := h
    simp only [rdAs, rdA] at q
    cases qa : rdAs e as with
    | none => rw [qa] at q; cases q
    | some ws =>
      rw [qa] at q; cases q
      simp only [IsBL]; exact ⟨d, es, rfl, .inl h1, rdAs_ok R h2 qa⟩
  | .s i :: as, ds, vs, h, q => by
    simp only [AR] at h
    obtain ⟨d, es, rfl, h1, h2⟩ := h
    simp only [rdAs] at q
    cases qb : rdA e (.s i) with
    | none => rw [qb] at q; cases q
    | some v =>
      cases qa : rdAs e as with
      | none => rw [qa, qb] at q; cases q
      | some ws =>
        rw [qa, qb] at q; cases q
        simp only [IsBL]; exact ⟨d, es, rfl, rdA_ok R qb h1, rdAs_ok R h2 qa⟩
end
abbrev POp := List PV → Option (Bool × PV)
def OpSnd (sc : SC) (F : List D → Store → Out D) (op : POp) : Prop := ∀ (M : Store) (B : NP) (vs : List PV) (ds : List D) (w : Bool) (r : PV), InS sc M → IsBL sc M B vs ds → op vs = some (w, r) →
  if w = true then ∃ o, F ds M = .ok (.ref M.length) (M ++ [o]) ∧ Cel sc M B r o else ∃ d, F ds M = .ok d M ∧ Is sc M B r d
def pFin (op : POp) (r : List PA × PEnv) : C PX := match rdAs r.2 r.1 with
  | some vs => (match op vs with
    | some (w, v) => .ret (w, v, r.2)
    | none => .bad)
  | none => .bad
def pOp (op : POp) (q : POps) : PExp := fun e => (pOps q e).bind (pFin op)
section
variable {sc : SC} {Av : NP} {M M1 M' : Store} {eta eta' : Env} {e e1 e' : PEnv}
theorem se_op {F : List D → Store → Out D} {op : POp} {g : EvL} {q : POps} (hF : OpSnd sc F op) (h : SL sc g q) : SE sc (fun eta M => (g eta M).bind F) (pOp op q) := .mk fun Av M eta e R => by
  unfold pOp
  refine h.then_ (Rs.refl R) fun ds M1 as e1 a _ har => ?_
  unfold pFin
  show Ok _ _ _ (match rdAs e1 as with
    | some vs => (match op vs with
      | some (w, v) => .ret (w, v, e1)
      | none => .bad)
    | none => .bad)
  cases hv : rdAs e1 as with
  | none => trivial
  | some vs =>
    cases ho : op vs with
    | none => simp only [ho]; trivial
    | some r =>
      obtain ⟨w, v⟩ := r
      simp only [ho]
      have := hF M1 (Bd Av eta e1) vs ds w v a.rel.ins (rdAs_ok a.rel har hv) ho
      cases w with
      | false =>
        simp only [Bool.false_eq_true, if_false] at this
        obtain ⟨d, h1, h2⟩ := this
        exact ⟨d, M1, h1, a, VR.sh h2⟩
      | true =>
        simp only [if_true] at this
        obtain ⟨o, h1, h2⟩ := this
        exact ⟨_, _, h1, a.grow (MO.low_le (Nat.le_succ _) _ (h2.low a.rel.ins)), VR.new a.rel a.le h2⟩
theorem SE.congr {f f' : EvE} {p : PExp} (h : SE sc f p) (e : ∀ eta M, f' eta M = f eta M) : SE sc f' p := .mk fun Av M eta ev R => by rw [e]; exact h Av M eta ev R
theorem ST.congr {f f' : EvT} {p : PStop} (h : ST sc f p) (e : ∀ eta M, f' eta M = f eta M) : ST sc f' p := .mk fun Av M eta ev R => by rw [e]; exact h Av M eta ev R
def F2 (f : D → D → Store → Out D) : List D → Store → Out D := fun ds M => match ds with
  | [x, y] => f x y M
  | _ => .bad
def F1 (f : D → Store → Out D) : List D → Store → Out D := fun ds M => match ds with
  | [x] => f x M
  | _ => .bad
theorem se_bin {f : D → D → Store → Out D} {op : POp} {a b : EvE} {q : POps} (hF : OpSnd sc (F2 f) op) (h : SL sc (lCons a (lCons b lNil)) q) : SE sc (eBin f a b) (pOp op q) :=
  (se_op hF h).congr fun eta M => by
    unfold eBin lCons lNil
    cases a eta M with
    | ok x M1 =>
      simp only [Out.bind]
      cases b eta M1 with
      | ok y M2 => rfl
      | exc _ _ _ => rfl
      | bad => rfl
    | exc _ _ _ => rfl
    | bad => rfl
theorem se_un {f : D → Store → Out D} {op : POp} {a : EvE} {q : POps} (hF : OpSnd sc (F1 f) op) (h : SL sc (lCons a lNil) q) : SE sc (eUn f a) (pOp op q) :=
  (se_op hF h).congr fun eta M => by
    unfold eUn lCons lNil
    cases a eta M <;> rfl
theorem se_B {f : List D → Store → Out D} {op : POp} {g : EvL} {q : POps} (hF : OpSnd sc f op) (h : SL sc g q) : SE sc (eB f g) (pOp op q) := se_op hF h
end
section
variable {sc : SC} {M : Store} {B : NP} {d : D}
theorem isB_int {i : Int} (h : IsB sc M B (.int i) d) : d = .int i := by
  rcases h with h | ⟨n, o, _, _, h⟩
  · simpa only [Is] using h
  · simp only [Cel] at h
theorem isB_bl {i : Bool} (h : IsB sc M B (.bl i) d) : d = .bl i := by
  rcases h with h | ⟨n, o, _, _, h⟩
  · simpa only [Is] using h
  · simp only [Cel] at h
theorem isB_str {i : Str} (h : IsB sc M B (.str i) d) : d = .str i := by
  rcases h with h | ⟨n, o, _, _, h⟩
  · simpa only [Is] using h
  · simp only [Cel] at h
theorem isB_non (h : IsB sc M B .non d) : d = .non := by
  rcases h with h | ⟨n, o, _, _, h⟩
  · simpa only [Is] using h
  · simp only [Cel] at h
theorem isB_cst {v : V} (h : IsB sc M B (.cst v) d) : d = .cst v := by
  rcases h with h | ⟨n, o, _, _, h⟩
  · simpa only [Is] using h
  · simp only [Cel] at h
theorem isB_tup {vs : List PV} (h : IsB sc M B (.tup vs) d) : ∃ ds, d = .tup ds ∧ IsL sc M B vs ds ∧ vs.length ≤ cap := by
  rcases h with h | ⟨n, o, _, _, h⟩
  · simpa only [Is] using h
  · simp only [Cel] at h
theorem isB_lst {vs : List PV} (h : IsB sc M B (.lst vs) d) : ∃ n ds, d = .ref n ∧ M[n]? = some (.lst ds) ∧ IsL sc M B vs ds ∧ vs.length ≤ cap := by
  rcases h with h | ⟨n, o, h1, h2, h⟩
  · simp only [Is] at h
    obtain ⟨n, ds, h1, _, h2⟩ := h
    exact ⟨n, ds, h1, h2⟩
  · simp only [Cel] at h
    obtain ⟨ds, rfl, h3⟩ := h
    exact ⟨n, ds, h1, h2, h3⟩
theorem isB_dic {ks : List Key} {vs : List PV} (h : IsB sc M B (.dic ks vs) d) : ∃ n kvs, d = .ref n ∧ M[n]? = some (.dicK kvs) ∧ kvs.map (·.1) = ks ∧ IsL sc M B vs (kvs.map (·.2)) := by
  rcases h with h | ⟨n, o, h1, h2, h⟩
  · simp only [Is] at h
    obtain ⟨n, ds, h1, _, h2⟩ := h
    exact ⟨n, ds, h1, h2⟩
  · simp only [Cel] at h
    obtain ⟨ds, rfl, h3⟩ := h
    exact ⟨n, ds, h1, h2, h3⟩
theorem isB_dit {ks : List (List Key)} {vs : List PV} (h : IsB sc M B (.dit ks vs) d) : ∃ n kvs, d = .ref n ∧ M[n]? = some (.dicT kvs) ∧ kvs.map (·.1) = ks ∧ IsL sc M B vs (kvs.map (·.2)) := by
  rcases h with h | ⟨n, o, h1, h2, h⟩
  · simp only [Is] at h
    obtain ⟨n, ds, h1, _, h2⟩ := h
    exact ⟨n, ds, h1, h2⟩
  · simp only [Cel] at h
    obtain ⟨ds, rfl, h3⟩ := h
    exact ⟨n, ds, h1, h2, h3⟩
theorem bl_one {v : PV} {ds : List D} (h : IsBL sc M B [v] ds) : ∃ d, ds = [d] ∧ IsB sc M B v d := by
  simp only [IsBL] at h
  obtain ⟨d, es, rfl, h1, rfl⟩ := h
  exact ⟨d, rfl, h1⟩
theorem bl_two {v u : PV} {ds : List D} (h : IsBL sc M B [v, u] ds) : ∃ d e, ds = [d, e] ∧ IsB sc M B v d ∧ IsB sc M B u e := by
  simp only [IsBL] at h
  obtain ⟨d, es, rfl, h1, e, fs, rfl, h2, rfl⟩ := h
  exact ⟨d, e, rfl, h1, h2⟩
theorem bl_three {v u z : PV} {ds : List D} (h : IsBL sc M B [v, u, z] ds) : ∃ d e f, ds = [d, e, f] ∧ IsB sc M B v d ∧ IsB sc M B u e ∧ IsB sc M B z f := by
  simp only [IsBL] at h
  obtain ⟨d, es, rfl, h1, e, fs, rfl, h2, f, gs, rfl, h3, rfl⟩ := h
  exact ⟨d, e, f, rfl, h1, h2, h3⟩
end
section
variable {sc : SC} {Av : NP} {M M1 M' : Store} {eta : Env} {e e1 e' : PEnv} {B : NP}
theorem AR_v : ∀ {vs : List PV} {ds : List D} {as : List PA} {es : List D}, IsL sc M (Bd Av eta e) vs ds → AR sc Av M eta e as es → AR sc Av M eta e (vs.map .v ++ as) (ds ++ es)
  | [], ds, as, es, h, h' => by simp only [IsL] at h; subst h; exact h'
  | v :: vs, ds, as, es, h, h' => by
    simp only [IsL] at h
    obtain ⟨d, fs, rfl, h2, h3⟩ := h
    simp only [List.map_cons, List.cons_append, AR]
    exact ⟨d, fs ++ es, rfl, h2, AR_v h3 h'⟩
theorem itm_is {v : PV} {d : D} {vs : List PV} (h : IsB sc M B v d) (q : itmP v = some vs) : ∃ ds, itemsS d M = some ds ∧ IsL sc M B vs ds := by
  cases v <;> simp only [itmP] at q <;> cases q
  · obtain ⟨ds, rfl, h1, _⟩ := isB_tup h
    exact ⟨ds, rfl, h1⟩
  · obtain ⟨n, ds, rfl, h1, h2, _⟩ := isB_lst h
    exact ⟨ds, by simp only [itemsS, liveAt, h1], h2⟩
theorem sl_stb {i : Nat} {g : EvL} {q : POps} (h' : SL sc g q) : SL sc (lStar (eVar i) g) (.stb i :: q) := .mk fun Av M eta e R => by
  unfold lStar pOps
  cases hq : itmS e[i]? with
  | none => trivial
  | some vs =>
    obtain ⟨v, d, hd, hv, hi⟩ : ∃ v d, eta[i]? = some (some d) ∧ IsB sc M (Bd Av eta e) v d ∧ itmP v = some vs := by
      cases h : e[i]? with
      | none => rw [h] at hq; cases hq
      | some sl =>
        rw [h] at hq
        cases sl with
        | un => cases hq
        | sh v => obtain ⟨d, h1, h2⟩ := R.sh i v h; exact ⟨v, d, h1, .inl h2, hq⟩
        | ow m v => obtain ⟨n, o, h1, h2, h3, h4⟩ := R.ow i m v h; exact ⟨v, _, h1, .inr ⟨n, o, rfl, h3, h4⟩, hq⟩
    have e1 : eVar i eta M = .ok d M := by unfold eVar; rw [hd]
    rw [e1]
    obtain ⟨ds, h1, h2⟩ := itm_is hv hi
    show Ok _ _ (match itemsS d M with
      | some xs => (g eta M).bind fun ds M2 => .ok (xs ++ ds) M2
      | none => .bad) _
    rw [h1]
    simp only
    refine h'.then_ (Rs.refl R) fun es M2 as e2 a2 b2 har => ?_
    exact ⟨_, _, rfl, a2, AR_v (b2.isL R h2) har⟩
theorem rdAs_v (e : PEnv) : ∀ (vs : List PV) (as : List PA), rdAs e (vs.map .v ++ as) = (match rdAs e as with
    | some ws => some (vs ++ ws)
    | none => none)
  | [], as => by
    show rdAs e as = _
    cases rdAs e as <;> rfl
  | v :: vs, as => by
    show (match some v, rdAs e (vs.map .v ++ as) with
      | some v, some vs => some (v :: vs)
      | _, _ => none) = _
    rw [rdAs_v e vs as]
    cases rdAs e as <;> rfl
end
end Ev
namespace Ev
open PySem L2
mutual
def pv0 : PV → Option PyData
  | .non => some .none
  | .bl b => some (.bool b)
  | .int i => some (.int i)
  | .str x => some (.str x)
  | .tup vs => (pv0s vs).map .tuple
  | .lst _ => none
  | .dic _ _ => none
  | .dit _ _ => none
  | .ins _ _ _ => none
  | .cst _ => none
  | .src => none
def pv0s : List PV → Option (List PyData)
  | [] => some []
  | v :: vs => match pv0 v, pv0s vs with
    | some p, some ps => some (p :: ps)
    | _, _ => none
end
def allPv (f : PV → Option PyData) : List PV → Option (List PyData)
  | [] => some []
  | v :: vs => match f v, allPv f vs with
    | some p, some ps => some (p :: ps)
    | _, _ => none
def pyS (g : PV → Option PyData) : PV → Option PyData
  | .lst vs => (allPv g vs).map .list
  | .tup vs => (allPv g vs).map .tuple
  | _ => none
def PV.py : Nat → PV → Option PyData
  | 0, v => pv0 v
  | n + 1, v => match pv0 v with
    | some p => some p
    | none => pyS (PV.py n) v
section
variable {sc : SC} {M : Store} {B : NP}
mutual
theorem pyD_is : ∀ (v : PV) (d : D), Is sc M B v d → pyD d = pv0 v
  | .non, d, h => by simp only [Is] at h; subst h; rfl
  | .bl _, d, h => by simp only [Is] at h; subst h; rfl
  | .int _, d, h => by simp only [Is] at h; subst h; rfl
  | .str _, d, h => by simp only [Is] at h; subst h; rfl
  | .cst _, d, h => by simp only [Is] at h; subst h; rfl
  | .src, d, h => by
    simp only [Is] at h
    obtain ⟨s, c, _, rfl⟩ := h
    rfl
  | .tup vs, d, h => by
    simp only [Is] at h
    obtain ⟨ds, rfl, h2, h3⟩ := h
    simp only [pyD, pv0, pyDs_is vs ds h2]
  | .lst vs, d, h => by
    simp only [Is] at h
    obtain ⟨n, ds, rfl, _⟩ := h
    rfl
  | .dic ks vs, d, h => by
    simp only [Is] at h
    obtain ⟨n, ds, rfl, _⟩ := h
    rfl
  | .dit ks vs, d, h => by
    simp only [Is] at h
    obtain ⟨n, ds, rfl, _⟩ := h
    rfl
  | .ins c ns vs, d, h => by
    simp only [Is] at h
    obtain ⟨n, ds, rfl, _⟩ := h
    rfl
theorem pyDs_is : ∀ (vs : List PV) (ds : List D), IsL sc M B vs ds → pyDs ds = pv0s vs
  | [], ds, h => by simp only [IsL] at h; subst h; rfl
  | v :: vs, ds, h => by
    simp only [IsL] at h
    obtain ⟨d, es, rfl, h2, h3⟩ := h
    simp only [pyDs, pv0s, pyD_is v d h2, pyDs_is vs es h3]
    all_goals (cases pv0 v <;> cases pv0s vs <;> rfl)
end
theorem allBy_is {f : D → Option PyData} {g : PV → Option PyData} (k : ∀ v d p, Is sc M B v d → g v = some p → f d = some p) : ∀ {vs : List PV} {ds : List D} {ps : List PyData}, IsL sc M B vs ds → allPv g vs = some ps → allBy f ds = some ps
  | [], ds, ps, h, e => by simp only [IsL] at h; subst h; simpa only [allBy, allPv] using e
  | v :: vs, ds, ps, h, e => by
    simp only [IsL] at h
    obtain ⟨d, es, rfl, h2, h3⟩ := h
    simp only [allPv] at e
    cases e1 : g v with
    | none => rw [e1] at e; cases e
    | some p =>
      cases e2 : allPv g vs with
      | none => rw [e1, e2] at e; cases e
      | some qs =>
        rw [e1, e2] at e
        simp only [allBy, k v d p h2 e1, allBy_is k h3 e2]; exact e
theorem toPy_is : ∀ (n : Nat) (v : PV) (d : D) (p : PyData), IsB sc M B v d → v.py n = some p → toPy M n d = some p
  | 0, v, d, p, h, e => by
    rcases h with h | ⟨m, o, rfl, h1, h2⟩
    · rw [toPy, pyD_is v d h]; exact e
    · cases v <;> simp only [Cel] at h2 <;> cases e
  | n + 1, v, d, p, h, e => by
    have hd : pyD d = pv0 v := by
      rcases h with h | ⟨m, o, rfl, h1, h2⟩
      · exact pyD_is v d h
      · cases v <;> simp only [Cel] at h2 <;> rfl
    rw [PV.py] at e
    rw [toPy.eq_def]
    simp only [hd]
    cases e0 : pv0 v with
    | some q => rw [e0] at e; exact e
    | none =>
      rw [e0] at e
      simp only at e ⊢
      cases v with
      | lst vs =>
        simp only [pyS] at e
        obtain ⟨m, ds, rfl, h1, h2, _⟩ := isB_lst h
        cases ea : allPv (PV.py n) vs with
        | none => rw [ea] at e; cases e
        | some qs =>
          rw [ea] at e
          simp only [h1, allBy_is (fun v d p h e => toPy_is n v d p (.inl h) e) h2 ea]; exact e
      | tup vs =>
        simp only [pyS] at e
        obtain ⟨ds, rfl, h2, _⟩ := isB_tup h
        cases ea : allPv (PV.py n) vs with
        | none => rw [ea] at e; cases e
        | some qs =>
          rw [ea] at e
          simp only [allBy_is (fun v d p h e => toPy_is n v d p (.inl h) e) h2 ea]; exact e
      | _ => cases e
end
def opAdd : POp
  | [.int i, .int j] => some (false, .int (i + j))
  | [.str a, .str b] => if a.length + b.length ≤ cap then some (false, .str (a ++ b)) else none
  | [.tup a, .tup b] => if a.length + b.length ≤ cap then some (false, .tup (a ++ b)) else none
  | [.lst a, .lst b] => if a.length + b.length ≤ cap then some (true, .lst (a ++ b)) else none
  | _ => none
def opSub : POp
  | [.int i, .int j] => some (false, .int (i - j))
  | _ => none
theorem nb62 {i : Int} (h : i.natAbs ≤ 4611686018427387903) : -(2 ^ 62) ≤ i ∧ i < 2 ^ 62 := by
  have e : (2 : Int) ^ 62 = 4611686018427387904 := by decide
  rw [e]; omega
theorem nb63 {i : Int} (h : i.natAbs ≤ 9223372036854775807) : -(2 ^ 63) ≤ i ∧ i < 2 ^ 63 := by
  have e : (2 : Int) ^ 63 = 9223372036854775808 := by decide
  rw [e]; omega
def mulOkP (i j : Int) : Bool := decide (i.natAbs ≤ 18446744073709551615) || decide (j.natAbs ≤ 18446744073709551615) || decide (i.natAbs.log2 + j.natAbs.log2 < 1000000)
theorem mulOk_of {i j : Int} (h : mulOkP i j = true) : mulOk i j = true := by
  have e : (2 : Int) ^ 64 = 18446744073709551616 := by decide
  unfold mulOkP at h
  unfold mulOk
  rw [e]
  simp only [Bool.or_eq_true, decide_eq_true_eq] at h ⊢
  omega
def opMul : POp
  | [.int i, .int j] => if mulOkP i j = true then some (false, .int (i * j)) else none
  | [.lst a, .int k] => if k.natAbs ≤ 9223372036854775807 ∧ a.length * k.toNat ≤ cap then some (true, .lst (List.replicate k.toNat a).flatten) else none
  | [.tup a, .int k] => if a.isEmpty = false ∧ k.natAbs ≤ 1000 ∧ a.length ≤ 1000 then some (false, .tup (List.replicate k.toNat a).flatten) else none
  | _ => none
def opFdiv : POp
  | [.int i, .int j] => if 0 < j ∧ j.natAbs.log2 < 9000 then some (false, .int (i / j)) else none
  | _ => none
def opMod : POp
  | [.int i, .int j] => if 0 < j then some (false, .int (i % j)) else none
  | _ => none
def opPow : POp
  | [.int i, .int j] => if 0 ≤ j ∧ j.toNat ≤ 1000000 ∧ i.natAbs ≤ 18446744073709551615 then some (false, .int (i ^ j.toNat)) else none
  | _ => none
def opNeg : POp
  | [.int i] => some (false, .int (-i))
  | _ => none
def opCmp (p : Int → Int → Bool) : POp
  | [.int i, .int j] => some (false, .bl (p i j))
  | _ => none
def opLt : POp := opCmp fun i j => decide (i < j)
def opLe : POp := opCmp fun i j => decide (i ≤ j)
def opGt : POp := opCmp fun i j => decide (j < i)
def opGe : POp := opCmp fun i j => decide (j ≤ i)
def eqB (v w : PV) : Option Bool := match v.py 6, w.py 6 with
  | some a, some b => if a.canLay0 = true ∧ b.canLay0 = true ∧ min a.depth b.depth ≤ 150 then some (PyData.eqv a b) else none
  | _, _ => none
def opEq (neg : Bool) : POp
  | [v, w] => (match eqB v w with
    | some b => some (false, .bl (if neg then !b else b))
    | none => none)
  | _ => none
def isB (neg : Bool) : PV → PV → Option Bool
  | .non, .non => some (!neg)
  | .bl _, .non | .int _, .non | .str _, .non | .tup _, .non | .lst _, .non | .dic _ _, .non | .dit _ _, .non | .ins _ _ _, .non => some neg
  | .bl a, .bl b => some (if neg then !decide (a = b) else decide (a = b))
  | _, _ => none
def opIs (neg : Bool) : POp
  | [v, w] => (isB neg v w).map fun b => (false, .bl b)
  | _ => none
section
variable {sc : SC}
theorem snd_add : OpSnd sc (F2 dAdd) opAdd := fun M B vs ds w r hs h e => by
  unfold opAdd at e
  split at e
  · cases e
    obtain ⟨x, y, rfl, h1, h2⟩ := bl_two h
    rw [isB_int h1, isB_int h2]
    exact ⟨_, rfl, by simp [Is]⟩
  · split at e
    · cases e
      obtain ⟨x, y, rfl, h1, h2⟩ := bl_two h
      rw [isB_str h1, isB_str h2]
      exact ⟨_, by simp only [F2, dAdd]; rw [if_pos (by assumption)], by simp [Is]⟩
    · cases e
  · split at e
    · rename_i a0 k0 hc
      cases e
      obtain ⟨x, y, rfl, h1, h2⟩ := bl_two h
      obtain ⟨as, rfl, g1, g2⟩ := isB_tup h1
      obtain ⟨bs, rfl, g3, g4⟩ := isB_tup h2
      refine ⟨_, by simp only [F2, dAdd]; rw [if_pos (by rw [g1.length, g3.length]; exact hc)], ?_⟩
      simp only [Is]; exact ⟨_, rfl, g1.append g3, by simpa using hc⟩
    · cases e
  · split at e
    · rename_i hc
      cases e
      obtain ⟨x, y, rfl, h1, h2⟩ := bl_two h
      obtain ⟨m, as, rfl, q1, g1, g2⟩ := isB_lst h1
      obtain ⟨n, bs, rfl, q2, g3, g4⟩ := isB_lst h2
      refine ⟨_, by simp only [F2, dAdd, q1, q2]; rw [if_pos (by rw [g1.length, g3.length]; exact hc)], ?_⟩
      simp only [Cel]; exact ⟨_, rfl, g1.append g3, by simpa using hc⟩
    · cases e
  · cases e
theorem snd_ii {f : D → D → Store → Out D} {op : POp} (h : ∀ vs w r, op vs = some (w, r) → ∃ i j, vs = [.int i, .int j] ∧ w = false ∧ ∃ d, (∀ M, f (.int i) (.int j) M = .ok d M) ∧ ((∃ k, d = .int k ∧ r = .int k) ∨ ∃ k, d = .bl k ∧ r = .bl k)) : OpSnd sc (F2 f) op := fun M B vs ds w r hs hl e => by
  obtain ⟨i, j, rfl, rfl, d, h1, h2⟩ := h vs w r e
  obtain ⟨x, y, rfl, g1, g2⟩ := bl_two hl
  rw [isB_int g1, isB_int g2]
  refine ⟨d, h1 M, ?_⟩
  rcases h2 with ⟨k, rfl, rfl⟩ | ⟨k, rfl, rfl⟩ <;> simp [Is]
theorem snd_sub : OpSnd sc (F2 dSub) opSub := snd_ii fun vs w r e => by
  unfold opSub at e
  split at e
  · cases e; exact ⟨_, _, rfl, rfl, _, fun _ => rfl, .inl ⟨_, rfl, rfl⟩⟩
  · cases e
theorem snd_fdiv : OpSnd sc (F2 dFdiv) opFdiv := snd_ii fun vs w r e => by
  unfold opFdiv at e
  split at e
  · split at e
    · cases e; exact ⟨_, _, rfl, rfl, _, fun _ => by simp only [dFdiv]; rw [if_pos (by assumption)], .inl ⟨_, rfl, rfl⟩⟩
    · cases e
  · cases e
theorem snd_mod : OpSnd sc (F2 dMod) opMod := snd_ii fun vs w r e => by
  unfold opMod at e
  split at e
  · split at e
    · cases e; exact ⟨_, _, rfl, rfl, _, fun _ => by simp only [dMod]; rw [if_pos (by assumption)], .inl ⟨_, rfl, rfl⟩⟩
    · cases e
  · cases e
theorem snd_pow : OpSnd sc (F2 dPow) opPow := snd_ii fun vs w r e => by
  unfold opPow at e
  split at e
  · split at e
    · rename_i i0 j0 hc
      cases e
      have e64 : (2 : Nat) ^ 64 = 18446744073709551616 := by decide
      have hc2 := And.intro hc.1 (And.intro (show j0 ≤ (1000000 : Int) by omega) (show _ < (2 : Nat) ^ 64 by rw [e64]; exact Nat.lt_succ_of_le hc.2.2))
      exact ⟨_, _, rfl, rfl, _, fun _ => by simp only [dPow]; rw [if_pos hc2], .inl ⟨_, rfl, rfl⟩⟩
    · cases e
  · cases e
theorem snd_cmp (p : Int → Int → Bool) : OpSnd sc (F2 (dCmp p)) (opCmp p) := snd_ii fun vs w r e => by
  unfold opCmp at e
  split at e
  · cases e; exact ⟨_, _, rfl, rfl, _, fun _ => rfl, .inr ⟨_, rfl, rfl⟩⟩
  · cases e
theorem snd_lt : OpSnd sc (F2 dLt) opLt := snd_cmp _
theorem snd_le : OpSnd sc (F2 dLe) opLe := snd_cmp _
theorem snd_gt : OpSnd sc (F2 dGt) opGt := snd_cmp _
theorem snd_ge : OpSnd sc (F2 dGe) opGe := snd_cmp _
theorem snd_neg : OpSnd sc (F1 dNeg) opNeg := fun M B vs ds w r hs h e => by
  unfold opNeg at e
  split at e
  · cases e
    obtain ⟨x, rfl, h1⟩ := bl_one h
    rw [isB_int h1]
    exact ⟨_, rfl, by simp [Is]⟩
  · cases e
theorem flat_len {α : Type} (a : List α) (k : Nat) : (List.replicate k a).flatten.length = k * a.length := by
  induction k with
  | zero => simp
  | succ k ih => rw [List.replicate_succ, List.flatten_cons, List.length_append, ih, Nat.succ_mul]; omega
theorem mulLst {as : List D} {n : Nat} {k : Int} {M : Store} (q1 : M[n]? = some (.lst as)) (hc : -(2 ^ 63) ≤ k ∧ k < 2 ^ 63 ∧ as.length * k.toNat ≤ cap) : F2 dMulA [.ref n, .int k] M = .ok (.ref M.length) (M ++ [.lst (List.replicate k.toNat as).flatten]) := by
  simp only [F2, dMulA, dMul, q1]; rw [if_pos hc]
theorem mulTup {as : List D} {k : Int} {M : Store} (hc : as ≠ [] ∧ -(2 ^ 63) ≤ k ∧ k ≤ 1000 ∧ as.length ≤ 1000) : F2 dMulA [.tup as, .int k] M = .ok (.tup (List.replicate k.toNat as).flatten) M := by
  simp only [F2, dMulA]; rw [if_pos hc]
theorem snd_mul : OpSnd sc (F2 dMulA) opMul := fun M B vs ds w r hs h e => by
  unfold opMul at e
  split at e
  · split at e
    · rename_i hc
      cases e
      obtain ⟨x, y, rfl, h1, h2⟩ := bl_two h
      rw [isB_int h1, isB_int h2]
      exact ⟨_, by simp only [F2, dMulA, dMul]; rw [if_pos (mulOk_of hc)], by simp [Is]⟩
    · cases e
  · split at e
    · rename_i hc
      cases e
      obtain ⟨x, y, rfl, h1, h2⟩ := bl_two h
      obtain ⟨m, as, rfl, q1, g1, g2⟩ := isB_lst h1
      rw [isB_int h2]
      refine ⟨_, mulLst q1 (by rw [g1.length]; exact ⟨(nb63 hc.1).1, (nb63 hc.1).2, hc.2⟩), ?_⟩
      simp only [Cel]; exact ⟨_, rfl, g1.rep _, by rw [flat_len, Nat.mul_comm]; exact hc.2⟩
    · cases e
  · split at e
    · rename_i a0 k0 hc
      cases e
      obtain ⟨x, y, rfl, h1, h2⟩ := bl_two h
      obtain ⟨as, rfl, g1, g2⟩ := isB_tup h1
      rw [isB_int h2]
      refine ⟨_, mulTup ⟨fun z => ?_, by have e : (2 : Int) ^ 63 = 9223372036854775808 := by decide
                                         omega, by omega, by rw [g1.length]; exact hc.2.2⟩, ?_⟩
      · have := g1.isEmpty
        rw [z, hc.1] at this; cases this
      · simp only [Is]; refine ⟨_, rfl, g1.rep _, ?_⟩
        rw [flat_len]
        have h1 := hc.2.1
        have h2 := hc.2.2
        have h3 : Int.toNat k0 ≤ 1000 := by omega
        have := Nat.mul_le_mul h3 h2
        unfold cap; omega
    · cases e
  · cases e
theorem eqB_ok {M : Store} {B : NP} {v w : PV} {x y : D} {b : Bool} (h : eqB v w = some b) (h1 : IsB sc M B v x) (h2 : IsB sc M B w y) (neg : Bool) : dEq neg x y M = .ok (.bl (if neg then !b else b)) M := by
  unfold eqB at h
  cases ea : v.py 6 with
  | none => rw [ea] at h; cases h
  | some a =>
    cases eb : w.py 6 with
    | none => rw [ea, eb] at h; cases h
    | some b' =>
      rw [ea, eb] at h
      simp only at h
      split at h
      · rename_i hc
        cases h
        unfold dEq
        rw [toPy_is 6 v x a h1 ea, toPy_is 6 w y b' h2 eb]
        simp only
        rw [if_pos hc]
      · cases h
theorem snd_eq (neg : Bool) : OpSnd sc (F2 (dEq neg)) (opEq neg) := fun M B vs ds w r hs h e => by
  unfold opEq at e
  split at e
  · split at e
    · rename_i hb
      cases e
      obtain ⟨x, y, rfl, h1, h2⟩ := bl_two h
      exact ⟨_, eqB_ok hb h1 h2 neg, by simp [Is]⟩
    · cases e
  · cases e
theorem isB_refd {M : Store} {B : NP} {v : PV} {d : D} (h : IsB sc M B v d) (hv : (∃ x, v = .lst x) ∨ (∃ k x, v = .dic k x) ∨ (∃ k x, v = .dit k x) ∨ ∃ c k x, v = .ins c k x) : ∃ n, d = .ref n := by
  rcases h with h | ⟨n, o, rfl, _⟩
  · rcases hv with ⟨x, rfl⟩ | ⟨k, x, rfl⟩ | ⟨k, x, rfl⟩ | ⟨c, k, x, rfl⟩ <;> simp only [Is] at h <;> obtain ⟨n, _, rfl, _⟩ := h <;> exact ⟨n, rfl⟩
  · exact ⟨n, rfl⟩
theorem snd_is (neg : Bool) : OpSnd sc (F2 (dIs neg)) (opIs neg) := fun M B vs ds w r hs h e => by
  unfold opIs at e
  split at e
  · rename_i v u
    cases eb : isB neg v u with
    | none => rw [eb] at e; cases e
    | some b =>
      rw [eb] at e; cases e
      obtain ⟨x, y, rfl, h1, h2⟩ := bl_two h
      refine ⟨_, ?_, show Is sc M B (.bl b) (.bl b) by simp [Is]⟩
      show dIs neg x y M = _
      unfold isB at eb
      split at eb
      · cases eb; rw [isB_non h1, isB_non h2]; rfl
      · cases eb; rw [isB_bl h1, isB_non h2]; rfl
      · cases eb; rw [isB_int h1, isB_non h2]; rfl
      · cases eb; rw [isB_str h1, isB_non h2]; rfl
      · cases eb; obtain ⟨q, rfl, _⟩ := isB_tup h1; rw [isB_non h2]; rfl
      · cases eb; obtain ⟨q, rfl⟩ := isB_refd h1 (.inl ⟨_, rfl⟩); rw [isB_non h2]; rfl
      · cases eb; obtain ⟨q, rfl⟩ := isB_refd h1 (.inr (.inl ⟨_, _, rfl⟩)); rw [isB_non h2]; rfl
      · cases eb; obtain ⟨q, rfl⟩ := isB_refd h1 (.inr (.inr (.inl ⟨_, _, rfl⟩))); rw [isB_non h2]; rfl
      · cases eb; obtain ⟨q, rfl⟩ := isB_refd h1 (.inr (.inr (.inr ⟨_, _, _, rfl⟩))); rw [isB_non h2]; rfl
      · cases eb; rw [isB_bl h1, isB_bl h2]; rfl
      · cases eb
  · cases e
end
def pkey : PV → Option Key
  | .int i => some (Sum.inl i)
  | .str x => some (Sum.inr x)
  | _ => none
def pkeys : List PV → Option (List Key)
  | [] => some []
  | d :: ds => match pkey d, pkeys ds with
    | some k, some ks => some (k :: ks)
    | _, _ => none
def ptkey : PV → Option (List Key)
  | .tup ds => pkeys ds
  | _ => none
def pfind {κ : Type} [DecidableEq κ] : List κ → List PV → κ → Option PV
  | k' :: ks, v :: vs, k => if k' = k then some v else pfind ks vs k
  | _, _, _ => none
section
variable {sc : SC} {M : Store} {B : NP}
theorem keyK_is {v : PV} {d : D} {k : Key} (h : IsB sc M B v d) (e : pkey v = some k) : keyK d = some k := by
  cases v <;> simp only [pkey] at e <;> first | cases e | skip
  · rw [isB_int h]; rfl
  · rw [isB_str h]; rfl
theorem keysT_is : ∀ {vs : List PV} {ds : List D} {ks : List Key}, IsL sc M B vs ds → pkeys vs = some ks → keysT ds = some ks
  | [], ds, ks, h, e => by simp only [IsL] at h; subst h; simpa only [keysT, pkeys] using e
  | v :: vs, ds, ks, h, e => by
    simp only [IsL] at h
    obtain ⟨d, es, rfl, h2, h3⟩ := h
    simp only [pkeys] at e
    cases e1 : pkey v with
    | none => rw [e1] at e; cases e
    | some p =>
      cases e2 : pkeys vs with
      | none => rw [e1, e2] at e; cases e
      | some qs =>
        rw [e1, e2] at e
        simp only [keysT, keyK_is (.inl h2) e1, keysT_is h3 e2]; exact e
theorem keyT_is {v : PV} {d : D} {k : List Key} (h : IsB sc M B v d) (e : ptkey v = some k) : keyT d = some k := by
  cases v <;> simp only [ptkey] at e <;> first | cases e | skip
  obtain ⟨ds, rfl, h1, _⟩ := isB_tup h
  exact keysT_is h1 e
theorem findK_is {κ : Type} [DecidableEq κ] : ∀ {kvs : List (κ × D)} {ks : List κ} {vs : List PV}, kvs.map (·.1) = ks → IsL sc M B vs (kvs.map (·.2)) → ∀ k, (findK kvs k = none ∧ pfind ks vs k = none) ∨ ∃ d v, findK kvs k = some d ∧ pfind ks vs k = some v ∧ Is sc M B v d
  | [], ks, vs, h, hl, k => by subst h; exact .inl ⟨rfl, by simp [pfind]⟩
  | (k', d) :: r, ks, vs, h, hl, k => by
    cases vs with
    | nil => simp only [IsL, List.map_cons] at hl; cases hl
    | cons v vs =>
      simp only [IsL, List.map_cons] at hl
      obtain ⟨d', es, h1, h2, h3⟩ := hl
      cases h1
      subst h
      simp only [List.map_cons, findK, pfind]
      by_cases hk : k' = k
      · simp only [if_pos hk]; exact .inr ⟨_, _, rfl, rfl, h2⟩
      · simp only [if_neg hk]; exact findK_is rfl h3 k
end
def inB (x y : PV) : Option Bool := match y with
  | .str t => (match x with
    | .str z => some (!(Builtin.Str.occurrences t z 0 t.length 1).isEmpty)
    | _ => none)
  | .dic ks vs => (pkey x).map fun k => (pfind ks vs k).isSome
  | .dit ks vs => (ptkey x).map fun k => (pfind ks vs k).isSome
  | .tup vs => (match x.py 6, (PV.tup vs).py 6 with
    | some d, some (.tuple ds) => if d.canLay0 = true ∧ PyData.canLayAll0 ds = true ∧ min (PyData.depthAll ds) d.depth ≤ 150 then some (ds.any fun z => PyData.eqv z d) else none
    | _, _ => none)
  | .lst vs => (match x.py 6, (PV.lst vs).py 6 with
    | some d, some (.list ds) => if d.canLay0 = true ∧ PyData.canLayAll0 ds = true ∧ min (PyData.depthAll ds) d.depth ≤ 150 then some (ds.any fun z => PyData.eqv z d) else none
    | _, _ => none)
  | _ => none
def opIn (neg : Bool) : POp
  | [v, w] => (inB v w).map fun b => (false, .bl (if neg then !b else b))
  | _ => none
def opIx : POp
  | [.tup vs, .int i] => (atI vs i).map fun v => (false, v)
  | [.lst vs, .int i] => (atI vs i).map fun v => (false, v)
  | [.str z, .int i] => (match atI z.cps.toList i with
    | some c => if z.length ≤ cap then some (false, .str ⟨#[c]⟩) else none
    | none => none)
  | [.dic ks vs, k] => (match pkey k with
    | some k => (pfind ks vs k).map fun v => (false, v)
    | none => none)
  | [.dit ks vs, k] => (match ptkey k with
    | some k => (pfind ks vs k).map fun v => (false, v)
    | none => none)
  | _ => none
def cutP (xs : List PV) (lo hi : Option Int) : List PV := (xs.drop (HT.sIx xs.length 0 lo)).take (HT.sIx xs.length xs.length hi - HT.sIx xs.length 0 lo)
def cutV (x : PV) (lo hi : Option Int) : Option (Bool × PV) := match x with
  | .tup vs => some (false, .tup (cutP vs lo hi))
  | .lst vs => some (true, .lst (cutP vs lo hi))
  | _ => none
section
variable {sc : SC}
theorem inB_ok {M : Store} {B : NP} {v w : PV} {x y : D} {b : Bool} (e : inB v w = some b) (h1 : IsB sc M B v x) (h2 : IsB sc M B w y) (neg : Bool) : dIn neg x y M = .ok (.bl (if neg then !b else b)) M := by
  unfold inB at e
  split at e
  · split at e
    · cases e; rw [isB_str h1, isB_str h2]; rfl
    · cases e
  · rename_i ks vs
    obtain ⟨n, kvs, rfl, q1, q2, q3⟩ := isB_dic h2
    cases ek : pkey v with
    | none => rw [ek] at e; cases e
    | some k =>
      rw [ek] at e; cases e
      simp only [dIn, q1, keyK_is h1 ek]
      rcases findK_is q2 q3 k with ⟨g1, g2⟩ | ⟨d, u, g1, g2, _⟩ <;> simp only [g1, g2, Option.isSome]
  · rename_i ks vs
    obtain ⟨n, kvs, rfl, q1, q2, q3⟩ := isB_dit h2
    cases ek : ptkey v with
    | none => rw [ek] at e; cases e
    | some k =>
      rw [ek] at e; cases e
      simp only [dIn, q1, keyT_is h1 ek]
      rcases findK_is q2 q3 k with ⟨g1, g2⟩ | ⟨d, u, g1, g2, _⟩ <;> simp only [g1, g2, Option.isSome]
  · rename_i vs
    obtain ⟨ds, rfl, q1, q2⟩ := isB_tup h2
    split at e
    · rename_i p ps hp hps
      split at e
      · rename_i hc
        cases e
        simp only [dIn, toPy_is 6 _ _ _ h1 hp, toPy_is 6 _ _ _ h2 hps]
        rw [if_pos hc]
      · cases e
    · cases e
  · rename_i vs
    obtain ⟨n, ds, rfl, q0, q1, q2⟩ := isB_lst h2
    split at e
    · rename_i p ps hp hps
      split at e
      · rename_i hc
        cases e
        simp only [dIn, q0, toPy_is 6 _ _ _ h1 hp, toPy_is 6 _ _ _ h2 hps]
        rw [if_pos hc]
      · cases e
    · cases e
  · cases e
theorem snd_in (neg : Bool) : OpSnd sc (F2 (dIn neg)) (opIn neg) := fun M B vs ds w r hs h e => by
  unfold opIn at e
  split at e
  · rename_i v u
    cases eb : inB v u with
    | none => rw [eb] at e; cases e
    | some b =>
      rw [eb] at e; cases e
      obtain ⟨x, y, rfl, h1, h2⟩ := bl_two h
      exact ⟨_, inB_ok eb h1 h2 neg, by simp [Is]⟩
  · cases e
theorem atI_is {M : Store} {B : NP} {vs : List PV} {ds : List D} {i : Int} {v : PV} (h : IsL sc M B vs ds) (e : atI vs i = some v) : ∃ d, atI ds i = some d ∧ Is sc M B v d := by
  unfold atI at e ⊢
  rw [h.length]
  cases q : ixN vs.length i with
  | none => rw [q] at e; cases e
  | some j =>
    rw [q] at e
    exact h.get e
theorem snd_ix : OpSnd sc (F2 dIx) opIx := fun M B vs ds w r hs h e => by
  unfold opIx at e
  split at e
  · rename_i vs i
    cases eb : atI vs i with
    | none => rw [eb] at e; cases e
    | some b =>
      rw [eb] at e; cases e
      obtain ⟨x, y, rfl, h1, h2⟩ := bl_two h
      obtain ⟨as, rfl, g1, g2⟩ := isB_tup h1
      rw [isB_int h2]
      obtain ⟨d, q1, q2⟩ := atI_is g1 eb
      exact ⟨d, by simp only [F2, dIx, q1], q2⟩
  · rename_i vs i
    cases eb : atI vs i with
    | none => rw [eb] at e; cases e
    | some b =>
      rw [eb] at e; cases e
      obtain ⟨x, y, rfl, h1, h2⟩ := bl_two h
      obtain ⟨n, as, rfl, q0, g1, g2⟩ := isB_lst h1
      rw [isB_int h2]
      obtain ⟨d, q1, q2⟩ := atI_is g1 eb
      exact ⟨d, by simp only [F2, dIx, q0, q1], q2⟩
  · split at e
    · rename_i hc
      split at e
      · rename_i hl
        cases e
        obtain ⟨x, y, rfl, h1, h2⟩ := bl_two h
        rw [isB_str h1, isB_int h2]
        exact ⟨_, by simp only [F2, dIx, hc]; rw [if_pos hl], by simp [Is]⟩
      · cases e
    · cases e
  · rename_i ks vs k
    split at e
    · rename_i k' hk
      cases ef : pfind ks vs k' with
      | none => rw [ef] at e; cases e
      | some u =>
        rw [ef] at e; cases e
        obtain ⟨x, y, rfl, h1, h2⟩ := bl_two h
        obtain ⟨n, kvs, rfl, q1, q2, q3⟩ := isB_dic h1
        rcases findK_is q2 q3 k' with ⟨g1, g2⟩ | ⟨d, u', g1, g2, g3⟩
        · rw [ef] at g2; cases g2
        · rw [ef] at g2; cases g2
          exact ⟨d, by simp only [F2, dIx, dictAt, q1, keyK_is h2 hk, g1], g3⟩
    · cases e
  · rename_i ks vs k
    split at e
    · rename_i k' hk
      cases ef : pfind ks vs k' with
      | none => rw [ef] at e; cases e
      | some u =>
        rw [ef] at e; cases e
        obtain ⟨x, y, rfl, h1, h2⟩ := bl_two h
        obtain ⟨n, kvs, rfl, q1, q2, q3⟩ := isB_dit h1
        rcases findK_is q2 q3 k' with ⟨g1, g2⟩ | ⟨d, u', g1, g2, g3⟩
        · rw [ef] at g2; cases g2
        · rw [ef] at g2; cases g2
          exact ⟨d, by simp only [F2, dIx, dictAt, q1, keyT_is h2 hk, g1], g3⟩
    · cases e
  · cases e
theorem cut_is {M : Store} {B : NP} {vs : List PV} {ds : List D} (h : IsL sc M B vs ds) (lo hi : Option Int) : IsL sc M B (cutP vs lo hi) (cutD ds lo hi) := by
  unfold cutP cutD
  rw [h.length]
  exact (h.drop _).take _
theorem cutP_len (vs : List PV) (lo hi : Option Int) : (cutP vs lo hi).length ≤ vs.length := by
  unfold cutP
  rw [List.length_take, List.length_drop]; omega
end
def opLen : POp
  | [.tup vs] => some (false, .int vs.length)
  | [.lst vs] => some (false, .int vs.length)
  | [.str z] => if z.length ≤ cap then some (false, .int z.length) else none
  | [.dic ks vs] => some (false, .int ks.length)
  | [.dit ks vs] => some (false, .int ks.length)
  | _ => none
def opAbs : POp
  | [.int i] => some (false, .int (if i < 0 then -i else i))
  | _ => none
def opInt : POp
  | [.int i] => some (false, .int i)
  | [.bl b] => some (false, .int (if b then 1 else 0))
  | _ => none
def pints : List PV → Option (List Int)
  | [] => some []
  | .int i :: ds => (pints ds).map (i :: ·)
  | _ => none
def opMax : POp
  | [.int i, .int j] => some (false, .int (if j > i then j else i))
  | [.lst vs] => (match pints vs with
    | some ns => if 0 < ns.length then some (false, .int (listMax ns)) else none
    | none => none)
  | [.tup vs] => (match pints vs with
    | some ns => if 0 < ns.length then some (false, .int (listMax ns)) else none
    | none => none)
  | _ => none
def opMin : POp
  | [.int i, .int j] => some (false, .int (if j < i then j else i))
  | [.lst vs] => (match pints vs with
    | some ns => if 0 < ns.length then some (false, .int (listMin ns)) else none
    | none => none)
  | _ => none
def opTuple : POp
  | [.tup vs] => some (false, .tup vs)
  | [.lst vs] => some (false, .tup vs)
  | _ => none
def opList : POp
  | [.tup vs] => some (true, .lst vs)
  | [.lst vs] => some (true, .lst vs)
  | _ => none
def tyP : PV → Option String
  | .non => some "NoneType"
  | .bl _ => some "bool"
  | .int _ => some "int"
  | .str _ => some "str"
  | .tup _ => some "tuple"
  | .lst _ => some "list"
  | .dic _ _ => some "dict"
  | .dit _ _ => some "dict"
  | _ => none
def cstP : List PV → Option (List String)
  | [] => some []
  | .cst (.ty n) :: ds => (cstP ds).map (n :: ·)
  | _ => none
def insPV : PV → Bool
  | .ins _ _ _ => true
  | _ => false
def opIsi : POp
  | [x, .cst (.ty b)] => (match tyP x with
    | some a => (kitB a b).map fun k => (false, .bl k)
    | none => if (insPV x && btL.elem b) = true then some (false, .bl false) else none)
  | [x, .tup cs] => (match tyP x, cstP cs with
    | some a, some bs => (kitAll a bs).map fun k => (false, .bl k)
    | none, some bs => if (insPV x && bs.all fun b => btL.elem b) = true then some (false, .bl false) else none
    | _, none => none)
  | _ => none
section
variable {sc : SC} {M : Store} {B : NP}
theorem intsD_is : ∀ {vs : List PV} {ds : List D} {ns : List Int}, IsL sc M B vs ds → pints vs = some ns → intsD ds = some ns
  | [], ds, ns, h, e => by simp only [IsL] at h; subst h; simpa only [intsD, pints] using e
  | v :: vs, ds, ns, h, e => by
    simp only [IsL] at h
    obtain ⟨d, es, rfl, h2, h3⟩ := h
    cases v <;> simp only [pints] at e <;> first | cases e | skip
    rw [isB_int (.inl h2)]
    simp only [intsD]
    cases e2 : pints vs with
    | none => rw [e2] at e; cases e
    | some qs => rw [e2] at e; rw [intsD_is h3 e2]; exact e
theorem csts_is : ∀ {vs : List PV} {ds : List D} {ns : List String}, IsL sc M B vs ds → cstP vs = some ns → csts ds = some ns
  | [], ds, ns, h, e => by simp only [IsL] at h; subst h; simpa only [csts, cstP] using e
  | v :: vs, ds, ns, h, e => by
    simp only [IsL] at h
    obtain ⟨d, es, rfl, h2, h3⟩ := h
    cases v with
    | cst u =>
      rw [isB_cst (.inl h2)]
      cases u with
      | ty n =>
        simp only [cstP] at e
        simp only [csts]
        cases e2 : cstP vs with
        | none => rw [e2] at e; cases e
        | some qs => rw [e2] at e; rw [csts_is h3 e2]; exact e
      | _ => simp only [cstP] at e; cases e
    | _ => simp only [cstP] at e; cases e
theorem liveAt_of {n : Nat} {ds : List D} (h : M[n]? = some (.lst ds)) : liveAt n M = some ds := by simp only [liveAt, h]
end
section
variable {sc : SC}
theorem snd_len : OpSnd sc bLen opLen := fun M B vs ds w r hs h e => by
  unfold opLen at e
  split at e
  · cases e
    obtain ⟨x, rfl, h1⟩ := bl_one h
    obtain ⟨as, rfl, g1, g2⟩ := isB_tup h1
    exact ⟨_, rfl, by simp [Is, g1.length]⟩
  · cases e
    obtain ⟨x, rfl, h1⟩ := bl_one h
    obtain ⟨n, as, rfl, q0, g1, g2⟩ := isB_lst h1
    exact ⟨_, by simp only [bLen, q0]; rfl, by simp [Is, g1.length]⟩
  · split at e
    · rename_i hc
      cases e
      obtain ⟨x, rfl, h1⟩ := bl_one h
      rw [isB_str h1]
      exact ⟨_, by simp only [bLen]; rw [if_pos hc], by simp [Is]⟩
    · cases e
  · cases e
    obtain ⟨x, rfl, h1⟩ := bl_one h
    obtain ⟨n, kvs, rfl, q0, g1, g2⟩ := isB_dic h1
    subst g1
    exact ⟨_, by simp only [bLen, q0]; rfl, by simp [Is]⟩
  · cases e
    obtain ⟨x, rfl, h1⟩ := bl_one h
    obtain ⟨n, kvs, rfl, q0, g1, g2⟩ := isB_dit h1
    subst g1
    exact ⟨_, by simp only [bLen, q0]; rfl, by simp [Is]⟩
  · cases e
theorem snd_max : OpSnd sc bMax opMax := fun M B vs ds w r hs h e => by
  unfold opMax at e
  split at e
  · cases e
    obtain ⟨x, y, rfl, h1, h2⟩ := bl_two h
    rw [isB_int h1, isB_int h2]
    exact ⟨_, rfl, by simp [Is]⟩
  · split at e
    · rename_i hn
      split at e
      · rename_i hc
        cases e
        obtain ⟨x, rfl, h1⟩ := bl_one h
        obtain ⟨n, as, rfl, q0, g1, g2⟩ := isB_lst h1
        exact ⟨_, by simp only [bMax, liveAt_of q0, intsD_is g1 hn]; rw [if_pos hc], by simp [Is]⟩
      · cases e
    · cases e
  · split at e
    · rename_i hn
      split at e
      · rename_i hc
        cases e
        obtain ⟨x, rfl, h1⟩ := bl_one h
        obtain ⟨as, rfl, g1, g2⟩ := isB_tup h1
        exact ⟨_, by simp only [bMax, intsD_is g1 hn]; rw [if_pos hc], by simp [Is]⟩
      · cases e
    · cases e
  · cases e
theorem snd_min : OpSnd sc bMin opMin := fun M B vs ds w r hs h e => by
  unfold opMin at e
  split at e
  · cases e
    obtain ⟨x, y, rfl, h1, h2⟩ := bl_two h
    rw [isB_int h1, isB_int h2]
    exact ⟨_, rfl, by simp [Is]⟩
  · split at e
    · rename_i hn
      split at e
      · rename_i hc
        cases e
        obtain ⟨x, rfl, h1⟩ := bl_one h
        obtain ⟨n, as, rfl, q0, g1, g2⟩ := isB_lst h1
        exact ⟨_, by simp only [bMin, liveAt_of q0, intsD_is g1 hn]; rw [if_pos hc], by simp [Is]⟩
      · cases e
    · cases e
  · cases e
theorem snd_tuple : OpSnd sc bTuple opTuple := fun M B vs ds w r hs h e => by
  unfold opTuple at e
  split at e
  · cases e
    obtain ⟨x, rfl, h1⟩ := bl_one h
    obtain ⟨as, rfl, g1, g2⟩ := isB_tup h1
    exact ⟨_, rfl, by simp only [Is]; exact ⟨_, rfl, g1, g2⟩⟩
  · cases e
    obtain ⟨x, rfl, h1⟩ := bl_one h
    obtain ⟨n, as, rfl, q0, g1, g2⟩ := isB_lst h1
    exact ⟨_, by simp only [bTuple, liveAt_of q0]; rfl, by simp only [Is]; exact ⟨_, rfl, g1, g2⟩⟩
  · cases e
theorem snd_list : OpSnd sc bList opList := fun M B vs ds w r hs h e => by
  unfold opList at e
  split at e
  · cases e
    obtain ⟨x, rfl, h1⟩ := bl_one h
    obtain ⟨as, rfl, g1, g2⟩ := isB_tup h1
    exact ⟨_, rfl, by simp only [Cel]; exact ⟨_, rfl, g1, g2⟩⟩
  · cases e
    obtain ⟨x, rfl, h1⟩ := bl_one h
    obtain ⟨n, as, rfl, q0, g1, g2⟩ := isB_lst h1
    exact ⟨_, by simp only [bList, liveAt_of q0]; rfl, by simp only [Cel]; exact ⟨_, rfl, g1, g2⟩⟩
  · cases e
theorem tyOf_is {M : Store} {B : NP} {v : PV} {d : D} {a : String} (h : IsB sc M B v d) (e : tyP v = some a) : tyOf M d = some a := by
  cases v <;> simp only [tyP] at e <;> first | cases e | skip
  · rw [isB_non h]; rfl
  · rw [isB_bl h]; rfl
  · rw [isB_int h]; rfl
  · rw [isB_str h]; rfl
  · obtain ⟨as, rfl, _⟩ := isB_tup h; rfl
  · obtain ⟨n, as, rfl, q, _⟩ := isB_lst h; simp only [tyOf, q]
  · obtain ⟨n, as, rfl, q, _⟩ := isB_dic h; simp only [tyOf, q]
  · obtain ⟨n, as, rfl, q, _⟩ := isB_dit h; simp only [tyOf, q]
theorem insPV_is {M : Store} {B : NP} {v : PV} {d : D} (h : IsB sc M B v d) (e : insPV v = true) : tyOf M d = none ∧ insD d M = true := by
  cases v <;> simp only [insPV, Bool.false_eq_true] at e
  rcases h with h | ⟨n, o, rfl, hn, hc⟩
  · simp only [Is] at h
    obtain ⟨n, fs, rfl, _, q, _⟩ := h
    exact ⟨by simp only [tyOf, q], by simp only [insD, q]⟩
  · simp only [Cel] at hc
    obtain ⟨fs, rfl, _⟩ := hc
    exact ⟨by simp only [tyOf, hn], by simp only [insD, hn]⟩
theorem snd_isi : OpSnd sc bIsi opIsi := fun M B vs ds w r hs h e => by
  unfold opIsi at e
  split at e
  · rename_i x b
    cases ha : tyP x with
    | none =>
      rw [ha] at e
      simp only at e
      split at e
      · rename_i hc
        rw [Bool.and_eq_true] at hc
        cases e
        obtain ⟨x, y, rfl, h1, h2⟩ := bl_two h
        obtain ⟨g1, g2⟩ := insPV_is h1 hc.1
        rw [isB_cst h2]
        exact ⟨_, by simp only [bIsi, g1]; rw [if_pos (by rw [g2, hc.2]; rfl)], by simp [Is]⟩
      · cases e
    | some a =>
      rw [ha] at e
      simp only at e
      cases hk : kitB a b with
      | none => rw [hk] at e; cases e
      | some k =>
        rw [hk] at e; cases e
        obtain ⟨x, y, rfl, h1, h2⟩ := bl_two h
        rw [isB_cst h2]
        exact ⟨_, by simp only [bIsi, tyOf_is h1 ha, hk]; rfl, by simp [Is]⟩
  · rename_i x cs
    cases ha : tyP x with
    | none =>
      cases hb : cstP cs with
      | none => rw [ha, hb] at e; cases e
      | some bs =>
        rw [ha, hb] at e
        simp only at e
        split at e
        · rename_i hc
          rw [Bool.and_eq_true] at hc
          cases e
          obtain ⟨x, y, rfl, h1, h2⟩ := bl_two h
          obtain ⟨g1, g2⟩ := insPV_is h1 hc.1
          obtain ⟨as, rfl, k1, k2⟩ := isB_tup h2
          exact ⟨_, by simp only [bIsi, g1, csts_is k1 hb]; rw [if_pos (by rw [g2, hc.2]; rfl)], by simp [Is]⟩
        · cases e
    | some a =>
      cases hb : cstP cs with
      | none => rw [ha, hb] at e; cases e
      | some bs =>
        rw [ha, hb] at e
        simp only at e
        cases hk : kitAll a bs with
        | none => rw [hk] at e; cases e
        | some k =>
          rw [hk] at e; cases e
          obtain ⟨x, y, rfl, h1, h2⟩ := bl_two h
          obtain ⟨as, rfl, g1, g2⟩ := isB_tup h2
          exact ⟨_, by simp only [bIsi, tyOf_is h1 ha, csts_is g1 hb, hk]; rfl, by simp [Is]⟩
  · cases e
end
end Ev
namespace Ev
open PySem L2
def pTof (p : PExp) : PStop := fun e => (p e).bind fun r => match r.2.1 with
  | .bl b => .ret (b, r.2.2)
  | _ => .bad
def truthP : PV → Option Bool
  | .non => some false
  | .bl b => some b
  | .int i => some (i != 0)
  | .str z => if z.length ≤ cap then some ((z.length : Int) != 0) else none
  | .tup vs => some (!vs.isEmpty)
  | .lst vs => some (!vs.isEmpty)
  | .dic ks vs => some (!vs.isEmpty)
  | _ => none
def pTru (q : POps) : PStop := fun e => (pOps q e).bind fun r => match rdAs r.2 r.1 with
  | some [v] => (match truthP v with
    | some b => .ret (b, r.2)
    | none => .bad)
  | _ => .bad
def pNt (p : PStop) : PStop := fun e => (p e).bind fun r => .ret (!r.1, r.2)
def pAnd (p q : PStop) : PStop := fun e => (p e).bind fun r => if r.1 = true then q r.2 else .ret (false, r.2)
def pOrr (p q : PStop) : PStop := fun e => (p e).bind fun r => if r.1 = true then .ret (true, r.2) else q r.2
def pIfE (c : PStop) (p q : PExp) : PExp := fun e => (c e).bind fun r => if r.1 = true then p r.2 else q r.2
def pAnE (p q : PExp) : PExp := fun e => (p e).bind fun r => match truthP r.2.1 with
  | some true => q r.2.2
  | some false => .ret (false, r.2)
  | none => .bad
def pOrE (p q : PExp) : PExp := fun e => (p e).bind fun r => match truthP r.2.1 with
  | some true => .ret (false, r.2)
  | some false => q r.2.2
  | none => .bad
def opNt : POp
  | [v] => (truthP v).map fun b => (false, .bl (!b))
  | _ => none
section
variable {sc : SC}
theorem truth_is {M : Store} {B : NP} {v : PV} {d : D} {b : Bool} (h : IsB sc M B v d) (e : truthP v = some b) : truthD d M = .ok b M := by
  cases v <;> simp only [truthP] at e <;> first | (cases e; done) | skip
  · rw [isB_non h]; cases e; rfl
  · rw [isB_bl h]; cases e; rfl
  · rw [isB_int h]; cases e; rfl
  · rw [isB_str h]
    split at e
    · rename_i hc
      cases e; simp only [truthD]; rw [if_pos hc]
    · cases e
  · obtain ⟨ds, rfl, h1, _⟩ := isB_tup h
    cases e; simp only [truthD, h1.isEmpty]
  · obtain ⟨n, ds, rfl, q, h1, _⟩ := isB_lst h
    cases e; simp only [truthD, q, h1.isEmpty]
  · obtain ⟨n, ds, rfl, q, h0, h1⟩ := isB_dic h
    cases e; simp only [truthD, q, ← h1.isEmpty]
    cases ds <;> rfl
theorem st_of {f : EvE} {p : PExp} (h : SE sc f p) : ST sc (tOf f) (pTof p) := .mk fun Av M eta e R => by
  unfold tOf pTof
  refine h.then_ (Rs.refl R) fun d M1 w v e1 a _ hv => ?_
  cases v <;> first | trivial | skip
  rw [isB_bl (.inl hv.is)]
  exact ⟨_, _, rfl, a, rfl⟩
theorem st_tru {f : EvE} {q : POps} (h : SL sc (lCons f lNil) q) : ST sc (tTru f) (pTru q) := .mk fun Av M eta e R => by
  have e1 : tTru f eta M = ((lCons f lNil) eta M).bind fun ds M => match ds with
      | [x] => truthD x M
      | _ => .bad := by
    unfold tTru lCons lNil
    cases f eta M <;> rfl
  rw [e1]
  unfold pTru
  refine h.then_ (Rs.refl R) fun ds M1 as e1 a _ har => ?_
  simp only
  cases hv : rdAs e1 as with
  | none => trivial
  | some vs =>
    have hb := rdAs_ok a.rel har hv
    match vs, hb with
    | [], _ => trivial
    | v :: u :: vs, _ => trivial
    | [v], hb =>
      simp only
      cases ht : truthP v with
      | none => trivial
      | some b =>
        obtain ⟨d, rfl, h1⟩ := bl_one hb
        exact ⟨b, M1, truth_is h1 ht, a, rfl⟩
theorem st_not {f : EvT} {p : PStop} (h : ST sc f p) : ST sc (tNt f) (pNt p) := .mk fun Av M eta e R => by
  unfold tNt pNt
  exact h.then_ (Rs.refl R) fun b M1 e1 a _ => ⟨_, _, rfl, a, rfl⟩
theorem Ok.from {α β : Type} {Av : NP} {M S : Store} {eta : Env} {e eS : PEnv} {R' : β → Store → α → Prop} {R : β → Store → α → Prop} {o : Out β} {c : C α} (h : Ok R (XE sc Av M eta e) o c) (a : Rs sc Av S eta eS M eta e) (k : ∀ b M' x, R b M' x → R' b M' x) : Ok R' (XE sc Av S eta eS) o c := h.imp k (XE.mono a)
theorem RT.from {Av : NP} {M S : Store} {eta : Env} {e eS : PEnv} (a : Rs sc Av S eta eS M eta e) : ∀ b M' x, RT sc Av M eta e b M' x → RT sc Av S eta eS b M' x := fun b M' x h => ⟨a.trans h.1, h.2⟩
theorem RE.from {Av : NP} {M S : Store} {eta : Env} {e eS : PEnv} (a : Rs sc Av S eta eS M eta e) : ∀ b M' x, RE sc Av M eta e b M' x → RE sc Av S eta eS b M' x := fun b M' x h => ⟨a.trans h.1, h.2.le a.le⟩
theorem st_an {f g : EvT} {p q : PStop} (h : ST sc f p) (h' : ST sc g q) : ST sc (tAn f g) (pAnd p q) := .mk fun Av M eta e R => by
  unfold tAn pAnd
  refine h.then_ (Rs.refl R) fun b M1 e1 a _ => ?_
  cases b with
  | true => exact (h' Av M1 eta e1 a.rel).from a (RT.from a)
  | false => exact ⟨_, _, rfl, a, rfl⟩
theorem st_or {f g : EvT} {p q : PStop} (h : ST sc f p) (h' : ST sc g q) : ST sc (tOrr f g) (pOrr p q) := .mk fun Av M eta e R => by
  unfold tOrr pOrr
  refine h.then_ (Rs.refl R) fun b M1 e1 a _ => ?_
  cases b with
  | false => exact (h' Av M1 eta e1 a.rel).from a (RT.from a)
  | true => exact ⟨_, _, rfl, a, rfl⟩
theorem se_if {c : EvT} {f g : EvE} {pc : PStop} {p q : PExp} (hc : ST sc c pc) (h : SE sc f p) (h' : SE sc g q) : SE sc (eIf c f g) (pIfE pc p q) := .mk fun Av M eta e R => by
  unfold eIf pIfE
  refine hc.then_ (Rs.refl R) fun b M1 e1 a _ => ?_
  cases b with
  | true => exact (h Av M1 eta e1 a.rel).from a (RE.from a)
  | false => exact (h' Av M1 eta e1 a.rel).from a (RE.from a)
theorem se_an {f g : EvE} {p q : PExp} (h : SE sc f p) (h' : SE sc g q) : SE sc (eAn f g) (pAnE p q) := .mk fun Av M eta e R => by
  unfold eAn pAnE
  refine h.then_ (Rs.refl R) fun d M1 w v e1 a _ hv => ?_
  simp only
  cases ht : truthP v with
  | none => trivial
  | some b =>
    rw [truth_is (.inl hv.is) ht]
    cases b with
    | true => exact (h' Av M1 eta e1 a.rel).from a (RE.from a)
    | false => exact ⟨_, _, rfl, a, VR.sh hv.is⟩
theorem se_orr {f g : EvE} {p q : PExp} (h : SE sc f p) (h' : SE sc g q) : SE sc (eOrr f g) (pOrE p q) := .mk fun Av M eta e R => by
  unfold eOrr pOrE
  refine h.then_ (Rs.refl R) fun d M1 w v e1 a _ hv => ?_
  simp only
  cases ht : truthP v with
  | none => trivial
  | some b =>
    rw [truth_is (.inl hv.is) ht]
    cases b with
    | false => exact (h' Av M1 eta e1 a.rel).from a (RE.from a)
    | true => exact ⟨_, _, rfl, a, VR.sh hv.is⟩
theorem se_nt {f : EvE} {q : POps} (h : SL sc (lCons f lNil) q) : SE sc (eNt f) (pOp opNt q) :=
  (se_op (F := F1 fun x M1 => (truthD x M1).bind fun b M2 => .ok (.bl (!b)) M2) (fun M B vs ds w r hs h e => by
    unfold opNt at e
    split at e
    · rename_i v
      cases ht : truthP v with
      | none => rw [ht] at e; cases e
      | some b =>
        rw [ht] at e; cases e
        obtain ⟨x, rfl, h1⟩ := bl_one h
        exact ⟨_, by simp only [F1, truth_is h1 ht, Out.bind]; rfl, by simp [Is]⟩
    · cases e) h).congr fun eta M => by
    unfold eNt lCons lNil
    cases f eta M <;> rfl
end
def pChn (f g : POp) (a b c : PExp) : PExp := fun e => (a e).bind fun r1 => (b r1.2.2).bind fun r2 => match f [r1.2.1, r2.2.1] with
  | some (false, .bl true) => (c r2.2.2).bind fun r3 => (match g [r2.2.1, r3.2.1] with
    | some (false, v) => .ret (false, v, r3.2.2)
    | _ => .bad)
  | some (false, .bl false) => .ret (false, .bl false, r2.2.2)
  | _ => .bad
section
variable {sc : SC} {Av : NP} {M M1 M' : Store} {eta eta' : Env} {e e1 e' : PEnv}
theorem isBL_two {B : NP} {v u : PV} {x y : D} (h : IsB sc M B v x) (h' : IsB sc M B u y) : IsBL sc M B [v, u] [x, y] := by
  simp only [IsBL]; exact ⟨x, _, rfl, h, y, _, rfl, h', rfl⟩
theorem se_chn {f g : D → D → Store → Out D} {a b c : EvE} {of og : POp} {pa pb pc : PExp} (hf : OpSnd sc (F2 f) of) (hg : OpSnd sc (F2 g) og) (ha : SE sc a pa) (hb : SE sc b pb) (hc : SE sc c pc) : SE sc (eChn f g a b c) (pChn of og pa pb pc) := .mk fun Av M eta e R => by
  unfold eChn pChn
  refine ha.then_ (Rs.refl R) fun x M1 w1 v1 e1 a1 _ hv1 => ?_
  refine hb.then_ a1 fun y M2 w2 v2 e2 a2 b2 hv2 => ?_
  have i1 := b2.is a1.rel hv1.is
  simp only
  split
  · rename_i ho
    obtain ⟨d, q1, q2⟩ := hf M2 _ _ _ _ _ a2.rel.ins (isBL_two (.inl i1) (.inl hv2.is)) ho
    have q1' : f x y M2 = .ok d M2 := q1
    rw [isB_bl (.inl q2)] at q1'
    rw [q1']
    show Ok _ _ ((c eta M2).bind _) _
    refine hc.then_ a2 fun z M3 w3 v3 e3 a3 b3 hv3 => ?_
    simp only
    split
    · rename_i ho2
      obtain ⟨d, q1, q2⟩ := hg M3 _ _ _ _ _ a3.rel.ins (isBL_two (.inl (b3.is a2.rel hv2.is)) (.inl hv3.is)) ho2
      exact ⟨d, M3, q1, a3, VR.sh q2⟩
    · trivial
  · rename_i ho
    obtain ⟨d, q1, q2⟩ := hf M2 _ _ _ _ _ a2.rel.ins (isBL_two (.inl i1) (.inl hv2.is)) ho
    have q1' : f x y M2 = .ok d M2 := q1
    rw [isB_bl (.inl q2)] at q1'
    rw [q1']
    exact ⟨_, _, rfl, a2, VR.sh (by simp [Is])⟩
  · trivial
end
def valA : List PA → Option (List PV)
  | [] => some []
  | .v x :: as => (valA as).map (x :: ·)
  | .s _ :: _ => none
theorem valA_v : ∀ (vs : List PV) (as : List PA), valA (vs.map .v ++ as) = (valA as).map (vs ++ ·)
  | [], as => by
    show valA as = _
    cases valA as <;> rfl
  | v :: vs, as => by
    show (valA (vs.map .v ++ as)).map (v :: ·) = _
    rw [valA_v vs as]
    cases valA as <;> rfl
def pTup (q : POps) : PExp := fun e => (pOps q e).bind fun r => match valA r.1 with
  | some vs => if vs.length ≤ cap then .ret (false, .tup vs, r.2) else .bad
  | none => .bad
def pLst (q : POps) : PExp := fun e => (pOps q e).bind fun r => match valA r.1 with
  | some vs => if vs.length ≤ cap then .ret (true, .lst vs, r.2) else .bad
  | none => .bad
section
variable {sc : SC} {Av : NP} {M M1 M' : Store} {eta eta' : Env} {e e1 e' : PEnv}
theorem valA_ok : ∀ {as : List PA} {ds : List D} {vs : List PV}, AR sc Av M eta e as ds → valA as = some vs → IsL sc M (Bd Av eta e) vs ds
  | [], ds, vs, h, q => by
    simp only [AR] at h; simp only [valA] at q
    cases q; subst h; exact IsL.nil
  | .v x :: as, ds, vs, h, q => by
    simp only [AR] at h
    obtain ⟨d, es, rfl, h1, h2⟩ := h
    simp only [valA] at q
    cases qa : valA as with
    | none => rw [qa] at q; cases q
    | some ws =>
      rw [qa] at q; cases q
      exact IsL.cons h1 (valA_ok h2 qa)
  | .s i :: as, ds, vs, h, q => by simp only [valA] at q; cases q
theorem AR.keep (a : Rs sc Av M eta e M1 eta e1) (R : Rel sc Av M eta e) : ∀ {as : List PA} {ds : List D}, AR sc Av M eta e as ds → AR sc Av M1 eta e1 as ds
  | [], ds, h => by simpa only [AR] using h
  | .v x :: as, ds, h => by
    simp only [AR] at h ⊢
    obtain ⟨d, es, h0, h1, h2⟩ := h
    exact ⟨d, es, h0, a.is R h1, AR.keep a R h2⟩
  | .s i :: as, ds, h => by
    simp only [AR] at h ⊢
    obtain ⟨d, es, h0, h1, h2⟩ := h
    exact ⟨d, es, h0, h1, AR.keep a R h2⟩
theorem se_tup {g : EvL} {q : POps} (h : SL sc g q) : SE sc (eTup g) (pTup q) := .mk fun Av M eta e R => by
  unfold eTup pTup
  refine h.then_ (Rs.refl R) fun ds M1 as e1 a _ har => ?_
  simp only
  cases hv : valA as with
  | none => trivial
  | some vs =>
    simp only
    by_cases hc : vs.length ≤ cap
    · rw [if_pos hc]
      have hl := valA_ok har hv
      exact ⟨_, _, if_pos (by rw [hl.length]; exact hc), a, VR.sh (by simp only [Is]; exact ⟨_, rfl, hl, hc⟩)⟩
    · rw [if_neg hc]; trivial
theorem re_new {v : PV} {o : MO} (a : Rs sc Av M eta e M1 eta e1) (h : Cel sc M1 (Bd Av eta e1) v o) : RE sc Av M eta e (.ref M1.length) (M1 ++ [o]) (true, v, e1) :=
  ⟨a.grow (MO.low_le (Nat.le_succ _) _ (h.low a.rel.ins)), VR.new a.rel a.le h⟩
theorem se_lst {g : EvL} {q : POps} (h : SL sc g q) : SE sc (eLst g) (pLst q) := .mk fun Av M eta e R => by
  unfold eLst pLst
  refine h.then_ (Rs.refl R) fun ds M1 as e1 a _ har => ?_
  simp only
  cases hv : valA as with
  | none => trivial
  | some vs =>
    simp only
    by_cases hc : vs.length ≤ cap
    · rw [if_pos hc]
      have hl := valA_ok har hv
      exact ⟨_, _, if_pos (by rw [hl.length]; exact hc), re_new a (by simp only [Cel]; exact ⟨_, rfl, hl, hc⟩)⟩
    · rw [if_neg hc]; trivial
end
abbrev PO := PEnv → C (Option Int × PEnv)
def poNone : PO := fun e => .ret (none, e)
def poSome (p : PExp) : PO := fun e => (p e).bind fun r => match r.2.1 with
  | .int i => .ret (some i, r.2.2)
  | _ => .bad
def ROi (sc : SC) (Av : NP) (M : Store) (eta : Env) (e : PEnv) : Option Int → Store → Option Int × PEnv → Prop := fun b M' r => Rs sc Av M eta e M' eta r.2 ∧ b = r.1
structure SO (sc : SC) (f : EvO) (p : PO)  : Prop where
  go : ∀ (Av : NP) (M : Store) (eta : Env) (e : PEnv), Rel sc Av M eta e → Ok (ROi sc Av M eta e) (XE sc Av M eta e) (f eta M) (p e)
instance {sc : SC} {f : EvO} {p : PO} : CoeFun (SO sc f p) (fun _ => ∀ (Av : NP) (M : Store) (eta : Env) (e : PEnv), Rel sc Av M eta e → Ok (ROi sc Av M eta e) (XE sc Av M eta e) (f eta M) (p e)) := ⟨SO.go⟩
def pCut (x : POps) (lo hi : PO) : PExp := fun e => (pOps x e).bind fun r => (lo r.2).bind fun l => (hi l.2).bind fun h => match rdAs h.2 r.1 with
  | some [v] => (match cutV v l.1 h.1 with
    | some (w, u) => .ret (w, u, h.2)
    | none => .bad)
  | _ => .bad
section
variable {sc : SC} {Av : NP} {M M1 M' : Store} {eta eta' : Env} {e e1 e' : PEnv}
theorem SO.then_ {α β : Type} {f : EvO} {p : PO} {g : Option Int → Store → Out β} {q : Option Int × PEnv → C α} {S : Store} {eS : PEnv} {R' : β → Store → α → Prop} (h : SO sc f p) (a : Rs sc Av S eta eS M eta e)
    (k : ∀ b M' e', Rs sc Av S eta eS M' eta e' → Rs sc Av M eta e M' eta e' → Ok R' (XE sc Av S eta eS) (g b M') (q (b, e'))) : Ok R' (XE sc Av S eta eS) ((f eta M).bind g) ((p e).bind q) :=
  Ok.bind (h Av M eta e a.rel) (fun b M' r ⟨h1, h2⟩ => by
    have := k r.1 M' r.2 (a.trans h1) h1
    rw [h2]; exact this) (XE.mono a)
theorem so_none : SO sc oNone poNone := .mk fun Av M eta e R => ⟨_, _, rfl, Rs.refl R, rfl⟩
theorem so_some {f : EvE} {p : PExp} (h : SE sc f p) : SO sc (oSome f) (poSome p) := .mk fun Av M eta e R => by
  unfold oSome poSome
  refine h.then_ (Rs.refl R) fun d M1 w v e1 a _ hv => ?_
  cases v <;> first | trivial | skip
  rw [isB_int (.inl hv.is)]
  exact ⟨_, _, rfl, a, rfl⟩
theorem se_cut {f : EvE} {q : POps} {lo hi : EvO} {pl ph : PO} (h : SL sc (lCons f lNil) q) (hl : SO sc lo pl) (hh : SO sc hi ph) : SE sc (eCut f lo hi) (pCut q pl ph) := .mk fun Av M eta e R => by
  have e1 : eCut f lo hi eta M = ((lCons f lNil) eta M).bind fun ds M1 => (lo eta M1).bind fun l M2 => (hi eta M2).bind fun h M3 => match ds with
      | [x] => dCut x l h M3
      | _ => .bad := by
    unfold eCut lCons lNil
    cases f eta M <;> rfl
  rw [e1]
  unfold pCut
  refine h.then_ (Rs.refl R) fun ds M1 as e1 a1 _ har => ?_
  refine hl.then_ a1 fun l M2 e2 a2 b2 => ?_
  refine hh.then_ a2 fun u M3 e3 a3 b3 => ?_
  simp only
  have har3 := AR.keep b3 a2.rel (AR.keep b2 a1.rel har)
  cases hv : rdAs e3 as with
  | none => trivial
  | some vs =>
    have hb := rdAs_ok a3.rel har3 hv
    match vs, hb with
    | [], _ => trivial
    | v :: u :: vs, _ => trivial
    | [v], hb =>
      simp only
      obtain ⟨d, rfl, h1⟩ := bl_one hb
      cases v <;> first | trivial | skip
      · obtain ⟨as, rfl, g1, g2⟩ := isB_tup h1
        exact ⟨_, _, rfl, a3, VR.sh (by simp only [Is]; exact ⟨_, rfl, cut_is g1 _ _, Nat.le_trans (cutP_len _ _ _) g2⟩)⟩
      · obtain ⟨n, as, rfl, q0, g1, g2⟩ := isB_lst h1
        exact ⟨_, _, by simp only [dCut, q0]; rfl, re_new a3 (by simp only [Cel]; exact ⟨_, rfl, cut_is g1 _ _, Nat.le_trans (cutP_len _ _ _) g2⟩)⟩
end
section
variable {sc : SC} {Av : NP} {M M1 M' : Store} {eta eta' : Env} {e e1 e' : PEnv}
theorem Rel.put (R : Rel sc Av M eta e) {i n : Nat} {m : Mode} {v u : PV} {o : MO} (h : e[i]? = some (.ow m v)) (hn : eta[i]? = some (some (.ref n))) (ho : Cel sc M (Bd Av eta e) u o) : Rel sc Av (M.set n o) eta (e.set i (.ow m u)) ∧ (∀ (P : Mode → Prop) j, FoM P eta (e.set i (.ow m u)) j ↔ FoM P eta e j) := by
  have hi : i < e.length := (List.getElem?_eq_some_iff.mp h).1
  have hfo : ∀ (P : Mode → Prop) j, FoM P eta (e.set i (.ow m u)) j ↔ FoM P eta e j := fun P j => by
    constructor
    · rintro ⟨l, m', v', h0, h1, h2⟩
      by_cases hj : i = l
      · subst hj
        rw [List.getElem?_set_self hi] at h1
        cases h1
        exact ⟨i, m, v, h0, h, h2⟩
      · rw [List.getElem?_set_ne hj] at h1
        exact ⟨l, m', v', h0, h1, h2⟩
    · rintro ⟨l, m', v', h0, h1, h2⟩
      by_cases hj : i = l
      · subst hj
        rw [h] at h1; cases h1
        exact ⟨i, m, u, h0, by rw [List.getElem?_set_self hi], h2⟩
      · exact ⟨l, m', v', h0, by rw [List.getElem?_set_ne hj]; exact h1, h2⟩
  obtain ⟨n', o', g1, g2, g3, g4⟩ := R.ow i m v h
  rw [hn] at g1; cases g1
  have hF : Fo eta e n := ⟨i, m, v, trivial, h, hn⟩
  have key : ∀ j (w : MO), ¬ Bd Av eta e j → M[j]? = some w → ¬ Bd Av eta (e.set i (.ow m u)) j ∧ (M.set n o)[j]? = some w := fun j w a b => by
    refine ⟨fun z => a (z.elim .inl fun q => .inr ((hfo _ _).mp q)), ?_⟩
    rw [List.getElem?_set_ne (fun z => a (.inr (by subst z; exact hF)))]; exact b
  refine ⟨⟨by rw [List.length_set]; exact R.len, R.wf.set (ho.low R.ins), fun s c hs => ?_, R.asrc, fun j z => by rw [List.length_set]; exact R.av j z, fun j w z => ?_, fun j m' w z => ?_, fun j l m1 v1 m2 v2 k a b c d => ?_⟩, hfo⟩
  · obtain ⟨ne, cs, l, mm, t, x1, x2, x3⟩ := R.src s c hs
    have ns : n ≠ s := fun z => g2 (R.asrc n ⟨s, c, hs, .inl z⟩)
    have nc : n ≠ c := fun z => g2 (R.asrc n ⟨s, c, hs, .inr z⟩)
    exact ⟨ne, cs, l, mm, t, by rw [List.getElem?_set_ne ns]; exact x1, by rw [List.getElem?_set_ne nc]; exact x2, x3⟩
  · by_cases hj : i = j
    · subst hj
      rw [List.getElem?_set_self hi] at z
      cases z
    · rw [List.getElem?_set_ne hj] at z
      obtain ⟨d, x1, x2⟩ := R.sh j w z
      exact ⟨d, x1, Is.mono key _ _ x2⟩
  · by_cases hj : i = j
    · subst hj
      rw [List.getElem?_set_self hi] at z
      cases z
      exact ⟨n, o, hn, g2, by rw [List.getElem?_set_self (List.getElem?_eq_some_iff.mp g3).1], Cel.mono key ho⟩
    · rw [List.getElem?_set_ne hj] at z
      obtain ⟨k, o2, x1, x2, x3, x4⟩ := R.ow j m' w z
      refine ⟨k, o2, x1, x2, ?_, Cel.mono key x4⟩
      rw [List.getElem?_set_ne (fun q => hj (R.dj i j _ _ _ _ n h z hn (by rw [q]; exact x1)))]; exact x3
  · have aux : ∀ (j' : Nat) (m1 : Mode) (v1 : PV), (e.set i (PSlot.ow m u))[j']? = some (PSlot.ow m1 v1) → ∃ m2 v2, e[j']? = some (PSlot.ow m2 v2) := fun j' m1 v1 a => by
      by_cases hj : i = j'
      · subst hj; exact ⟨_, _, h⟩
      · rw [List.getElem?_set_ne hj] at a; exact ⟨_, _, a⟩
    obtain ⟨_, _, a'⟩ := aux j _ _ a
    obtain ⟨_, _, b'⟩ := aux l _ _ b
    exact R.dj j l _ _ _ _ k a' b' c d
theorem Rs.put {S : Store} {eS : PEnv} {etS : Env} (a : Rs sc Av S etS eS M eta e) {i n : Nat} {m : Mode} {v u : PV} {o : MO} (h : e[i]? = some (.ow m v)) (hm : m ≠ .lk) (hn : eta[i]? = some (some (.ref n))) (ho : Cel sc M (Bd Av eta e) u o) : Rs sc Av S etS eS (M.set n o) eta (e.set i (.ow m u)) := by
  have R := a.rel
  obtain ⟨R', hfo⟩ := R.put h hn ho
  have hi : i < e.length := (List.getElem?_eq_some_iff.mp h).1
  refine a.trans ⟨R', fun P j z => .inl ((hfo P j).mp z), by rw [List.length_set]; exact Nat.le_refl _, fun j h1 h2 h3 => ?_, fun j m' w _ z => ⟨?_, rfl⟩, fun j m' w _ z => ?_⟩
  · rw [List.getElem?_set_ne (fun q => h2 ⟨i, m, v, hm, h, by rw [← q]; exact hn⟩)]
  · by_cases hj : i = j
    · subst hj
      rw [h] at z; cases z
      exact ⟨u, by rw [List.getElem?_set_self hi]⟩
    · exact ⟨w, by rw [List.getElem?_set_ne hj]; exact z⟩
  · by_cases hj : i = j
    · subst hj
      rw [List.getElem?_set_self hi] at z; cases z
      exact ⟨v, h⟩
    · rw [List.getElem?_set_ne hj] at z; exact ⟨w, z⟩
end
def pMutF (i : Nat) (mop : PV → List PV → Option (PV × PV)) (vs : Option (List PV)) (e : PEnv) : C PX := match vs with
  | some vs => (match e[i]? with
    | some (.ow .own v) => (match mop v vs with
      | some (u, r) => .ret (false, r, e.set i (.ow .own u))
      | none => .bad)
    | some (.ow .io v) => (match mop v vs with
      | some (u, r) => .ret (false, r, e.set i (.ow .io u))
      | none => .bad)
    | _ => .bad)
  | none => .bad
def slLst (o : Option PSlot) : Bool := match o with
  | some (.ow _ (.lst _)) => true
  | _ => false
/-- a method of a list; the arguments are kept -/
def pMut (i : Nat) (mop : PV → List PV → Option (PV × PV)) (q : POps) : PExp := fun e => if slLst e[i]? = true then (pOps q e).bind fun r => pMutF i mop (valA r.1) r.2 else .bad
/-- .. that looks at its arguments alone -/
def pMutB (i : Nat) (mop : PV → List PV → Option (PV × PV)) (q : POps) : PExp := fun e => if slLst e[i]? = true then (pOps q e).bind fun r => pMutF i mop (rdAs r.2 r.1) r.2 else .bad
def MSndL (sc : SC) (f : D → List D → Store → Out D) (mop : PV → List PV → Option (PV × PV)) : Prop := ∀ (M : Store) (B : NP) (n : Nat) (o : MO) (vs : List PV) (ds : List D) (v u r : PV), M[n]? = some o → Cel sc M B v o → IsL sc M B vs ds → mop v vs = some (u, r) →
  ∃ d o', f (.ref n) ds M = .ok d (M.set n o') ∧ Cel sc M B u o' ∧ Is sc M B r d
def MSndB (sc : SC) (f : D → List D → Store → Out D) (mop : PV → List PV → Option (PV × PV)) : Prop := ∀ (M : Store) (B : NP) (n : Nat) (o : MO) (vs : List PV) (ds : List D) (v u r : PV), M[n]? = some o → Cel sc M B v o → IsBL sc M B vs ds → mop v vs = some (u, r) →
  ∃ d o', f (.ref n) ds M = .ok d (M.set n o') ∧ Cel sc M B u o' ∧ Is sc M B r d
section
variable {sc : SC} {Av : NP} {M M1 M' : Store} {eta eta' : Env} {e e1 e' : PEnv}
theorem mutF_ok {S : Store} {eS : PEnv} {f : D → List D → Store → Out D} {mop : PV → List PV → Option (PV × PV)} {i n : Nat} {ds : List D} {ovs : Option (List PV)} (a : Rs sc Av S eta eS M eta e) (hn : eta[i]? = some (some (.ref n)))
    (k : ∀ vs v o u r, ovs = some vs → M[n]? = some o → Cel sc M (Bd Av eta e) v o → mop v vs = some (u, r) → ∃ d o', f (.ref n) ds M = .ok d (M.set n o') ∧ Cel sc M (Bd Av eta e) u o' ∧ Is sc M (Bd Av eta e) r d) :
    Ok (RE sc Av S eta eS) (XE sc Av S eta eS) (f (.ref n) ds M) (pMutF i mop ovs e) := by
  have R := a.rel
  have main : ∀ m v vs, m ≠ .lk → e[i]? = some (.ow m v) → ovs = some vs → Ok (RE sc Av S eta eS) (XE sc Av S eta eS) (f (.ref n) ds M) (match mop v vs with
      | some (u, r) => C.ret (false, r, e.set i (.ow m u))
      | none => .bad) := fun m v vs hm h ho => by
    cases hmop : mop v vs with
    | none => trivial
    | some ur =>
      obtain ⟨u, r⟩ := ur
      obtain ⟨n', o, g1, g2, g3, g4⟩ := R.ow i m v h
      rw [hn] at g1; cases g1
      obtain ⟨d, o', q1, q2, q3⟩ := k vs v o u r ho g3 g4 hmop
      have b := a.put h hm hn q2
      refine ⟨d, _, q1, b, VR.sh ?_⟩
      have b1 := (Rs.refl R).put h hm hn q2
      exact b1.is R q3
  unfold pMutF
  cases hv : ovs with
  | none => trivial
  | some vs =>
    cases h : e[i]? with
    | none => trivial
    | some sl =>
      cases sl with
      | un => trivial
      | sh v => trivial
      | ow m v =>
        cases m with
        | lk => trivial
        | own => exact main .own v vs (by decide) h hv
        | io => exact main .io v vs (by decide) h hv
theorem slLst_ok (R : Rel sc Av M eta e) {i : Nat} (h : slLst e[i]? = true) : ∃ n, eta[i]? = some (some (.ref n)) ∧ isLst (.ref n) M = true := by
  unfold slLst at h
  split at h
  · rename_i m vs hs
    obtain ⟨n, o, g1, g2, g3, g4⟩ := R.ow i m _ hs
    simp only [Cel] at g4
    obtain ⟨ds, rfl, _⟩ := g4
    exact ⟨n, g1, by simp only [isLst, g3]⟩
  · cases h
theorem se_mut {f : D → List D → Store → Out D} {mop : PV → List PV → Option (PV × PV)} {i : Nat} {g : EvL} {q : POps} (hm : MSndL sc f mop) (h : SL sc g q) : SE sc (eMl f (eVar i) g) (pMut i mop q) := .mk fun Av M eta e R => by
  unfold pMut eMl
  split
  · rename_i hs
    obtain ⟨n, hn, hl⟩ := slLst_ok R hs
    have e1 : eVar i eta M = .ok (.ref n) M := by unfold eVar; rw [hn]
    rw [e1]
    simp only [Out.bind]
    rw [if_pos hl]
    refine h.then_ (Rs.refl R) fun ds M1 as e1 a _ har => ?_
    exact mutF_ok a hn fun vs v o u r ho h1 h2 h3 => hm M1 _ n o vs ds v u r h1 h2 (valA_ok har ho) h3
  · trivial
theorem se_mutB {f : D → List D → Store → Out D} {mop : PV → List PV → Option (PV × PV)} {i : Nat} {g : EvL} {q : POps} (hm : MSndB sc f mop) (h : SL sc g q) : SE sc (eMl f (eVar i) g) (pMutB i mop q) := .mk fun Av M eta e R => by
  unfold pMutB eMl
  split
  · rename_i hs
    obtain ⟨n, hn, hl⟩ := slLst_ok R hs
    have e1 : eVar i eta M = .ok (.ref n) M := by unfold eVar; rw [hn]
    rw [e1]
    simp only [Out.bind]
    rw [if_pos hl]
    refine h.then_ (Rs.refl R) fun ds M1 as e1 a _ har => ?_
    exact mutF_ok a hn fun vs v o u r ho h1 h2 h3 => hm M1 _ n o vs ds v u r h1 h2 (rdAs_ok a.rel har ho) h3
  · trivial
theorem se_mut0 {f : D → List D → Store → Out D} {mop : PV → List PV → Option (PV × PV)} {i : Nat} (hm : MSndL sc f mop) : SE sc (eMl0 f (eVar i)) (pMut i mop []) :=
  (se_mut (i := i) hm sl_nil).congr fun eta M => by
    unfold eMl0 eMl lNil
    cases eVar i eta M <;> rfl
end
def mopAppend : PV → List PV → Option (PV × PV)
  | .lst es, [v] => if es.length < cap then some (.lst (es ++ [v]), .non) else none
  | _, _ => none
def mopExtend : PV → List PV → Option (PV × PV)
  | .lst es, [.tup ts] => if es.length + ts.length ≤ cap then some (.lst (es ++ ts), .non) else none
  | .lst es, [.lst ts] => if es.length + ts.length ≤ cap then some (.lst (es ++ ts), .non) else none
  | _, _ => none
def mopPop : PV → List PV → Option (PV × PV)
  | .lst es, [] => (match es[es.length - 1]? with
    | some d => some (.lst es.dropLast, d)
    | none => none)
  | .lst es, [.int i] => (match seqIndex? i es.length with
    | some k => (match es[k]? with
      | some d => if i.natAbs ≤ 9223372036854775807 then some (.lst (es.eraseIdx k), d) else none
      | none => none)
    | none => none)
  | _, _ => none
section
variable {sc : SC}
theorem isL_one {M : Store} {B : NP} {v : PV} {ds : List D} (h : IsL sc M B [v] ds) : ∃ d, ds = [d] ∧ Is sc M B v d := by
  simp only [IsL] at h
  obtain ⟨d, es, rfl, h1, rfl⟩ := h
  exact ⟨d, rfl, h1⟩
theorem msnd_append : MSndL sc mAppend mopAppend := fun M B n o vs ds v u r hn hc hl e => by
  unfold mopAppend at e
  split at e
  · split at e
    · rename_i hlt
      cases e
      obtain ⟨d, rfl, h1⟩ := isL_one hl
      simp only [Cel] at hc
      obtain ⟨es, rfl, g1, g2⟩ := hc
      refine ⟨_, _, by simp only [mAppend, hn]; rw [if_pos (by rw [g1.length]; exact hlt)], ?_, by simp [Is]⟩
      simp only [Cel]; exact ⟨_, rfl, g1.append (IsL.cons h1 IsL.nil), by simp; omega⟩
    · cases e
  · cases e
theorem msnd_extend : MSndB sc mExtend mopExtend := fun M B n o vs ds v u r hn hc hl e => by
  unfold mopExtend at e
  split at e
  · split at e
    · rename_i hlt
      cases e
      obtain ⟨d, rfl, h1⟩ := bl_one hl
      obtain ⟨ts, rfl, k1, k2⟩ := isB_tup h1
      simp only [Cel] at hc
      obtain ⟨es, rfl, g1, g2⟩ := hc
      refine ⟨_, _, by simp only [mExtend, hn]; rw [if_pos (by rw [g1.length, k1.length]; exact hlt)], ?_, by simp [Is]⟩
      simp only [Cel]; exact ⟨_, rfl, g1.append k1, by simpa using hlt⟩
    · cases e
  · split at e
    · rename_i hlt
      cases e
      obtain ⟨d, rfl, h1⟩ := bl_one hl
      obtain ⟨m, ts, rfl, k0, k1, k2⟩ := isB_lst h1
      simp only [Cel] at hc
      obtain ⟨es, rfl, g1, g2⟩ := hc
      refine ⟨_, _, by simp only [mExtend, hn, k0]; rw [if_pos (by rw [g1.length, k1.length]; exact hlt)], ?_, by simp [Is]⟩
      simp only [Cel]; exact ⟨_, rfl, g1.append k1, by simpa using hlt⟩
    · cases e
  · cases e
theorem msnd_pop : MSndL sc mPop mopPop := fun M B n o vs ds v u r hn hc hl e => by
  unfold mopPop at e
  split at e
  · rename_i es
    split at e
    · rename_i x hx
      cases e
      simp only [IsL] at hl
      subst hl
      simp only [Cel] at hc
      obtain ⟨es', rfl, g1, g2⟩ := hc
      obtain ⟨d, q1, q2⟩ := g1.get hx
      rw [← g1.length] at q1
      refine ⟨d, _, by simp only [mPop, hn, q1]; rfl, ?_, q2⟩
      simp only [Cel]; exact ⟨_, rfl, g1.dropLast, by simp; omega⟩
    · cases e
  · rename_i es i
    split at e
    · rename_i k hk
      split at e
      · rename_i x hx
        split at e
        · rename_i hi
          cases e
          obtain ⟨d, rfl, h1⟩ := isL_one hl
          rw [isB_int (.inl h1)]
          simp only [Cel] at hc
          obtain ⟨es', rfl, g1, g2⟩ := hc
          obtain ⟨d, q1, q2⟩ := g1.get hx
          rw [← g1.length] at hk
          refine ⟨d, _, by simp only [mPop, hn, hk, q1]; rw [if_pos (nb63 hi)], ?_, q2⟩
          simp only [Cel]; refine ⟨_, rfl, g1.erase k, ?_⟩
          exact Nat.le_trans (List.length_eraseIdx_le ..) g2
        · cases e
      · cases e
    · cases e
  · cases e
end
end Ev
namespace Ev
open PySem L2
inductive PR where
  | nx (e : PEnv)
  | rt (w : Bool) (v : PV) (e : PEnv)
  | bk (e : PEnv)
  | ct (e : PEnv)
abbrev PStm := PEnv → C PR
def RV (sc : SC) (Av : NP) (M : Store) (eta : Env) (e : PEnv) (M' : Store) (eta' : Env) (e' : PEnv) (w : Bool) (v : PV) (d : D) : Prop :=
  if w = true then ∃ n o, d = .ref n ∧ (Foo eta e n ∨ M.length ≤ n) ∧ ¬ Av n ∧ M'[n]? = some o ∧ Rel sc (fun j => Av j ∨ j = n) M' eta' e' ∧ Cel sc M' (Bd (fun j => Av j ∨ j = n) eta' e') v o
  else Is sc M' (Bd Av eta' e') v d
def OkS (sc : SC) (Av : NP) (M : Store) (eta : Env) (e : PEnv) (o : OutS) : C PR → Prop
  | .ret (.nx e') => ∃ eta' M', o = .nx eta' M' ∧ Rs sc Av M eta e M' eta' e'
  | .ret (.bk e') => ∃ eta' M', o = .bk eta' M' ∧ Rs sc Av M eta e M' eta' e'
  | .ret (.ct e') => ∃ eta' M', o = .ct eta' M' ∧ Rs sc Av M eta e M' eta' e'
  | .ret (.rt w v e') => ∃ d M' eta', o = .rt d M' ∧ Rs sc Av M eta e M' eta' e' ∧ RV sc Av M eta e M' eta' e' w v d
  | .exc x ns vs e' => ∃ fs M' eta', o = .exc x fs eta' M' ∧ Rs sc Av M eta e M' eta' e' ∧ fs.map (·.1) = ns ∧ IsL sc M' (Bd Av eta' e') vs (fs.map (·.2))
  | .draw k f => ∃ i, i < k ∧ OkS sc Av M eta e o (f i)
  | .bad => True
structure SS (sc : SC) (f : EvS) (p : PStm)  : Prop where
  go : ∀ (Av : NP) (M : Store) (eta : Env) (e : PEnv), Rel sc Av M eta e → OkS sc Av M eta e (f eta M) (p e)
instance {sc : SC} {f : EvS} {p : PStm} : CoeFun (SS sc f p) (fun _ => ∀ (Av : NP) (M : Store) (eta : Env) (e : PEnv), Rel sc Av M eta e → OkS sc Av M eta e (f eta M) (p e)) := ⟨SS.go⟩
section
variable {sc : SC} {Av : NP} {M M1 M' S : Store} {eta eta' eta1 etS : Env} {e e1 e' eS : PEnv}
theorem VR.rv {w : Bool} {v : PV} {d : D} (h : VR sc Av M.length M' eta' e' w v d) : RV sc Av M eta e M' eta' e' w v d := by
  unfold VR at h; unfold RV
  cases w with
  | false => simpa using h
  | true =>
    simp only [if_true] at h ⊢
    obtain ⟨n, o, h0, h1, h2⟩ := h
    exact ⟨n, o, h0, .inr h1, h2⟩
theorem RV.from (a : Rs sc Av S etS eS M eta e) {w : Bool} {v : PV} {d : D} (h : RV sc Av M eta e M' eta' e' w v d) : RV sc Av S etS eS M' eta' e' w v d := by
  unfold RV at h ⊢
  cases w with
  | false => simpa using h
  | true =>
    simp only [if_true] at h ⊢
    obtain ⟨n, o, h0, h1, h2⟩ := h
    refine ⟨n, o, h0, ?_, h2⟩
    rcases h1 with h1 | h1
    · exact a.fo _ n h1
    · exact .inr (Nat.le_trans a.le h1)
theorem OkS.from (a : Rs sc Av S etS eS M eta e) {o : OutS} : ∀ {c : C PR}, OkS sc Av M eta e o c → OkS sc Av S etS eS o c
  | .ret (.nx e'), h => by obtain ⟨t, M', h1, h2⟩ := h; exact ⟨t, M', h1, a.trans h2⟩
  | .ret (.bk e'), h => by obtain ⟨t, M', h1, h2⟩ := h; exact ⟨t, M', h1, a.trans h2⟩
  | .ret (.ct e'), h => by obtain ⟨t, M', h1, h2⟩ := h; exact ⟨t, M', h1, a.trans h2⟩
  | .ret (.rt w v e'), h => by obtain ⟨d, M', t, h1, h2, h3⟩ := h; exact ⟨d, M', t, h1, a.trans h2, h3.from a⟩
  | .exc x ns vs e', h => by obtain ⟨fs, M', t, h1, h2, h3⟩ := h; exact ⟨fs, M', t, h1, a.trans h2, h3⟩
  | .draw k f, h => by obtain ⟨i, hi, h⟩ := h; exact ⟨i, hi, OkS.from a h⟩
  | .bad, _ => trivial
theorem OkS.bindE {α β : Type} {R : β → Store → α → Prop} {o : Out β} {g : β → Store → OutS} {q : α → C PR} : ∀ {c : C α}, Ok R (XE sc Av M eta e) o c → (∀ b M' x, R b M' x → OkS sc Av M eta e (g b M') (q x)) → OkS sc Av M eta e (OutS.bindE o eta g) (c.bind q)
  | .ret a, h, k => by obtain ⟨b, M', rfl, h2⟩ := h; exact k _ _ _ h2
  | .exc x ns vs e', h, k => by obtain ⟨fs, M', rfl, h2, h3⟩ := h; exact ⟨fs, M', eta, rfl, h2, h3⟩
  | .draw n f, h, k => by obtain ⟨i, hi, h⟩ := h; exact ⟨i, hi, OkS.bindE h k⟩
  | .bad, _, _ => trivial
theorem SE.thenS {f : EvE} {p : PExp} {g : D → Store → OutS} {q : PX → C PR} (h : SE sc f p) (R : Rel sc Av M eta e) (k : ∀ d M' w v e', Rs sc Av M eta e M' eta e' → VR sc Av M.length M' eta e' w v d → OkS sc Av M eta e (g d M') (q (w, v, e'))) : OkS sc Av M eta e (OutS.bindE (f eta M) eta g) ((p e).bind q) :=
  OkS.bindE (h Av M eta e R) fun d M' r h => k d M' r.1 r.2.1 r.2.2 h.1 h.2
theorem ST.thenS {f : EvT} {p : PStop} {g : Bool → Store → OutS} {q : Bool × PEnv → C PR} (h : ST sc f p) (R : Rel sc Av M eta e) (k : ∀ b M' e', Rs sc Av M eta e M' eta e' → OkS sc Av M eta e (g b M') (q (b, e'))) : OkS sc Av M eta e (OutS.bindE (f eta M) eta g) ((p e).bind q) :=
  OkS.bindE (h Av M eta e R) fun b M' r h => by
    have := k r.1 M' r.2 h.1
    rw [h.2]; exact this
end
def pSkip : PStm := fun e => .ret (.nx e)
def pSeqK (q : PStm) : PR → C PR
  | .nx e => q e
  | r => .ret r
def pSeq (p q : PStm) : PStm := fun e => (p e).bind (pSeqK q)
def pBad : PStm := fun _ => .bad
def pExpr (p : PExp) : PStm := fun e => (p e).bind fun r => .ret (.nx r.2.2)
def pRet (p : PExp) : PStm := fun e => (p e).bind fun r => .ret (.rt r.1 r.2.1 r.2.2)
def pRetN : PStm := fun e => .ret (.rt false .non e)
/-- the answer is a name's: what is own is handed over -/
def pRetV (i : Nat) : PStm := fun e => match e[i]? with
  | some (.sh v) => .ret (.rt false v e)
  | some (.ow .own v) => .ret (.rt true v (e.set i .un))
  | _ => .bad
def pIf (c : PStop) (p q : PStm) : PStm := fun e => (c e).bind fun r => if r.1 = true then p r.2 else q r.2
section
variable {sc : SC} {Av : NP} {M M1 M' S : Store} {eta eta' eta1 etS : Env} {e e1 e' eS : PEnv}
theorem ss_skip : SS sc sSkip pSkip := .mk fun Av M eta e R => ⟨_, _, rfl, Rs.refl R⟩
theorem ss_bad {f : EvS} : SS sc f pBad := .mk fun Av M eta e R => trivial
/-- a statement's outcome, then what comes behind -/
theorem OkS.seq {o : OutS} {g : Env → Store → OutS} {q : PStm} (k : ∀ eta' M' e', Rs sc Av M eta e M' eta' e' → OkS sc Av M eta e (g eta' M') (q e')) : ∀ {c : C PR}, OkS sc Av M eta e o c → OkS sc Av M eta e (match o with
    | .nx eta' M' => g eta' M'
    | o => o) (c.bind (pSeqK q))
  | .ret (.nx e'), h => by obtain ⟨t, M', rfl, h2⟩ := h; exact k _ _ _ h2
  | .ret (.bk e'), h => by obtain ⟨t, M', rfl, h2⟩ := h; exact ⟨t, M', rfl, h2⟩
  | .ret (.ct e'), h => by obtain ⟨t, M', rfl, h2⟩ := h; exact ⟨t, M', rfl, h2⟩
  | .ret (.rt w v e'), h => by obtain ⟨d, M', t, rfl, h2⟩ := h; exact ⟨d, M', t, rfl, h2⟩
  | .exc x ns vs e', h => by obtain ⟨fs, M', t, rfl, h2⟩ := h; exact ⟨fs, M', t, rfl, h2⟩
  | .draw k f, h => by obtain ⟨i, hi, h⟩ := h; exact ⟨i, hi, OkS.seq (by assumption) h⟩
  | .bad, _ => trivial
theorem ss_seq {f g : EvS} {p q : PStm} (h : SS sc f p) (h' : SS sc g q) : SS sc (sSeq f g) (pSeq p q) := .mk fun Av M eta e R => by
  unfold sSeq pSeq
  exact OkS.seq (fun eta' M' e' a => (h' Av M' eta' e' a.rel).from a) (h Av M eta e R)
theorem ss_expr {f : EvE} {p : PExp} (h : SE sc f p) : SS sc (sExpr f) (pExpr p) := .mk fun Av M eta e R => by
  unfold sExpr pExpr
  exact h.thenS R fun d M' w v e' a hv => ⟨_, _, rfl, a⟩
theorem ss_ret {f : EvE} {p : PExp} (h : SE sc f p) : SS sc (sRet f) (pRet p) := .mk fun Av M eta e R => by
  unfold sRet pRet
  exact h.thenS R fun d M' w v e' a hv => ⟨_, _, _, rfl, a, hv.rv⟩
theorem ss_if {c : EvT} {f g : EvS} {pc : PStop} {p q : PStm} (hc : ST sc c pc) (h : SS sc f p) (h' : SS sc g q) : SS sc (sIf c f g) (pIf pc p q) := .mk fun Av M eta e R => by
  unfold sIf pIf
  refine hc.thenS R fun b M' e' a => ?_
  cases b with
  | true => exact (h Av M' eta e' a.rel).from a
  | false => exact (h' Av M' eta e' a.rel).from a
/-- a slot loses what it had -/
theorem Rel.drop (R : Rel sc Av M eta e) (i : Nat) {x : Option D} : (∀ (P : Mode → Prop) n, FoM P (eta.set i x) (e.set i .un) n → FoM P eta e n) ∧ Rel sc Av M (eta.set i x) (e.set i .un) := by
  have hg : ∀ (j : Nat) sl, (e.set i PSlot.un)[j]? = some sl → sl ≠ .un → i ≠ j ∧ e[j]? = some sl := fun j sl z q => by
    by_cases hj : i = j
    · subst hj
      have hi : i < e.length := by have := (List.getElem?_eq_some_iff.mp z).1; simpa using this
      rw [List.getElem?_set_self hi] at z
      cases z; exact absurd rfl q
    · rw [List.getElem?_set_ne hj] at z; exact ⟨hj, z⟩
  have hfo : ∀ (P : Mode → Prop) n, FoM P (eta.set i x) (e.set i .un) n → FoM P eta e n := fun P n ⟨j, m', v', h0, h1, h2⟩ => by
    obtain ⟨hj, h1⟩ := hg j _ h1 (by simp)
    rw [List.getElem?_set_ne hj] at h2
    exact ⟨j, m', v', h0, h1, h2⟩
  have key : ∀ n (u : MO), ¬ Bd Av eta e n → M[n]? = some u → ¬ Bd Av (eta.set i x) (e.set i .un) n ∧ M[n]? = some u := fun n u a b => ⟨fun z => a (z.elim .inl fun q => .inr (hfo _ _ q)), b⟩
  refine ⟨hfo, by rw [List.length_set, List.length_set]; exact R.len, R.wf, R.src, R.asrc, R.av, fun j v z => ?_, fun j m v z => ?_, fun j l m1 v1 m2 v2 k a b c d => ?_⟩
  · obtain ⟨hj, z⟩ := hg j _ z (by simp)
    obtain ⟨d, h1, h2⟩ := R.sh j v z
    exact ⟨d, by rw [List.getElem?_set_ne hj]; exact h1, Is.mono key _ _ h2⟩
  · obtain ⟨hj, z⟩ := hg j _ z (by simp)
    obtain ⟨n, o, h1, h2, h3, h4⟩ := R.ow j m v z
    exact ⟨n, o, by rw [List.getElem?_set_ne hj]; exact h1, h2, h3, Cel.mono key h4⟩
  · obtain ⟨hj, a⟩ := hg j _ a (by simp)
    obtain ⟨hl, b⟩ := hg l _ b (by simp)
    rw [List.getElem?_set_ne hj] at c
    rw [List.getElem?_set_ne hl] at d
    exact R.dj j l _ _ _ _ k a b c d
theorem ss_retV {i : Nat} : SS sc (sRet (eVar i)) (pRetV i) := .mk fun Av M eta e R => by
  unfold pRetV sRet eVar
  cases h : e[i]? with
  | none => trivial
  | some sl =>
    cases sl with
    | un => trivial
    | sh v =>
      obtain ⟨d, h1, h2⟩ := R.sh i v h
      rw [h1]
      exact ⟨d, M, eta, rfl, Rs.refl R, by simpa [RV] using h2⟩
    | ow m v =>
      cases m with
      | io => trivial
      | lk => trivial
      | own =>
        obtain ⟨n, o, h1, h2, h3, h4⟩ := R.ow i _ v h
        have hi : i < e.length := (List.getElem?_eq_some_iff.mp h).1
        obtain ⟨hfo, R'⟩ := R.drop i (x := none)
        have hnf : ¬ Fo (eta.set i none) (e.set i .un) n := fun ⟨j, m', v', _, g1, g2⟩ => by
          by_cases hj : i = j
          · subst hj
            rw [List.getElem?_set_self hi] at g1; cases g1
          · rw [List.getElem?_set_ne hj] at g1 g2
            exact hj (R.dj i j _ _ _ _ n h g1 h1 g2)
        have hb2 : ∀ j, Bd (fun j => Av j ∨ j = n) (eta.set i none) (e.set i .un) j → Bd Av eta e j := fun j z => by
          rcases z with (z | z) | z
          · exact .inl z
          · exact .inr ⟨i, _, v, trivial, h, by rw [z]; exact h1⟩
          · exact .inr (hfo _ _ z)
        have key : ∀ j (u : MO), ¬ Bd Av eta e j → M[j]? = some u → ¬ Bd (fun j => Av j ∨ j = n) (eta.set i none) (e.set i .un) j ∧ M[j]? = some u := fun j u a b => ⟨fun z => a (hb2 j z), b⟩
        have R2 : Rel sc (fun j => Av j ∨ j = n) M (eta.set i none) (e.set i .un) := by
          refine ⟨R'.len, R'.wf, R'.src, fun j z => .inl (R'.asrc j z), fun j z => z.elim (R'.av j) fun q => by rw [q]; exact (List.getElem?_eq_some_iff.mp h3).1, fun j u z => ?_, fun j m u z => ?_, R'.dj⟩
          · by_cases hj : i = j
            · subst hj
              rw [List.getElem?_set_self hi] at z; cases z
            · rw [List.getElem?_set_ne hj] at z
              obtain ⟨d, x1, x2⟩ := R.sh j u z
              exact ⟨d, by rw [List.getElem?_set_ne hj]; exact x1, Is.mono key _ _ x2⟩
          · by_cases hj : i = j
            · subst hj
              rw [List.getElem?_set_self hi] at z; cases z
            · rw [List.getElem?_set_ne hj] at z
              obtain ⟨k, o2, x1, x2, x3, x4⟩ := R.ow j m u z
              exact ⟨k, o2, by rw [List.getElem?_set_ne hj]; exact x1, fun q => q.elim x2 fun q => hj (R.dj i j _ _ _ _ n h z h1 (by rw [← q]; exact x1)), x3, Cel.mono key x4⟩
        rw [h1]
        refine ⟨.ref n, M, eta.set i none, rfl, ⟨R', fun P j z => .inl (hfo P j z), Nat.le_refl _, fun _ _ _ _ => rfl, fun j m' u hm z => ?_, fun j m' u hm z => ?_⟩, ?_⟩
        · have hj : i ≠ j := fun q => by subst q; rw [h] at z; cases z; exact hm rfl
          exact ⟨⟨u, by rw [List.getElem?_set_ne hj]; exact z⟩, by rw [List.getElem?_set_ne hj]⟩
        · by_cases hj : i = j
          · subst hj
            rw [List.getElem?_set_self hi] at z; cases z
          · rw [List.getElem?_set_ne hj] at z; exact ⟨u, z⟩
        · unfold RV
          simp only [if_true]
          exact ⟨n, o, rfl, .inl ⟨i, _, v, rfl, h, h1⟩, h2, h3, R2, Cel.mono key h4⟩
/-- the slot is no one else's -/
def slFree : Option PSlot → Bool
  | some (.ow .io _) => false
  | some (.ow .lk _) => false
  | _ => true
theorem Rs.setSh (a : Rs sc Av S etS eS M eta e) {i : Nat} {v : PV} {d : D} (hf : slFree e[i]? = true) (h : Is sc M (Bd Av eta e) v d) : Rs sc Av S etS eS M (eta.set i (some d)) (e.set i (.sh v)) ∧ ∀ n, Bd Av (eta.set i (some d)) (e.set i (.sh v)) n → Bd Av eta e n := by
  have R := a.rel
  have hg : ∀ (j : Nat) m u, (e.set i (PSlot.sh v))[j]? = some (.ow m u) → i ≠ j ∧ e[j]? = some (.ow m u) := fun j m u z => by
    by_cases hj : i = j
    · subst hj
      have hi : i < e.length := by have := (List.getElem?_eq_some_iff.mp z).1; simpa using this
      rw [List.getElem?_set_self hi] at z
      cases z
    · rw [List.getElem?_set_ne hj] at z; exact ⟨hj, z⟩
  have hfo : ∀ (P : Mode → Prop) n, FoM P (eta.set i (some d)) (e.set i (.sh v)) n → FoM P eta e n := fun P n ⟨j, m', v', h0, h1, h2⟩ => by
    obtain ⟨hj, h1⟩ := hg j _ _ h1
    rw [List.getElem?_set_ne hj] at h2
    exact ⟨j, m', v', h0, h1, h2⟩
  have hb : ∀ n, Bd Av (eta.set i (some d)) (e.set i (.sh v)) n → Bd Av eta e n := fun n z => z.elim .inl fun q => .inr (hfo _ _ q)
  have key : ∀ n (u : MO), ¬ Bd Av eta e n → M[n]? = some u → ¬ Bd Av (eta.set i (some d)) (e.set i (.sh v)) n ∧ M[n]? = some u := fun n u a b => ⟨fun z => a (hb n z), b⟩
  refine ⟨a.trans ⟨⟨by rw [List.length_set, List.length_set]; exact R.len, R.wf, R.src, R.asrc, R.av, fun j u z => ?_, fun j m u z => ?_, fun j l m1 v1 m2 v2 k a b c d => ?_⟩, fun P n z => .inl (hfo P n z), Nat.le_refl _, fun _ _ _ _ => rfl, fun j m' u hm z => ?_, fun j m' u hm z => ⟨u, (hg j _ _ z).2⟩⟩, hb⟩
  · by_cases hj : i = j
    · subst hj
      have hi : i < e.length := by have := (List.getElem?_eq_some_iff.mp z).1; simpa using this
      rw [List.getElem?_set_self hi] at z
      cases z
      exact ⟨d, by rw [List.getElem?_set_self (by rw [R.len]; exact hi)], Is.mono key _ _ h⟩
    · rw [List.getElem?_set_ne hj] at z
      obtain ⟨d', h1, h2⟩ := R.sh j u z
      exact ⟨d', by rw [List.getElem?_set_ne hj]; exact h1, Is.mono key _ _ h2⟩
  · obtain ⟨hj, z⟩ := hg j _ _ z
    obtain ⟨n, o, h1, h2, h3, h4⟩ := R.ow j m u z
    exact ⟨n, o, by rw [List.getElem?_set_ne hj]; exact h1, h2, h3, Cel.mono key h4⟩
  · obtain ⟨hj, a⟩ := hg j _ _ a
    obtain ⟨hl, b⟩ := hg l _ _ b
    rw [List.getElem?_set_ne hj] at c
    rw [List.getElem?_set_ne hl] at d
    exact R.dj j l _ _ _ _ k a b c d
  · have hj : i ≠ j := fun q => by subst q; rw [z] at hf; cases m' <;> first | exact hm rfl | cases hf
    exact ⟨⟨u, by rw [List.getElem?_set_ne hj]; exact z⟩, by rw [List.getElem?_set_ne hj]⟩
theorem Rs.setOw (a : Rs sc Av S etS eS M eta e) {i n : Nat} {v : PV} {o : MO} (hf : slFree e[i]? = true) (hk : S.length ≤ n) (hA : ¬ Av n) (hn : M[n]? = some o) (R2 : Rel sc (fun j => Av j ∨ j = n) M eta e) (h : Cel sc M (Bd (fun j => Av j ∨ j = n) eta e) v o) :
    Rs sc Av S etS eS M (eta.set i (some (.ref n))) (e.set i (.ow .own v)) ∧ ∀ j, Bd Av (eta.set i (some (.ref n))) (e.set i (.ow .own v)) j → Bd (fun j => Av j ∨ j = n) eta e j := by
  have R := a.rel
  have hg : ∀ (j : Nat) m u, (e.set i (PSlot.ow .own v))[j]? = some (.ow m u) → (i = j ∧ m = .own ∧ u = v ∧ i < e.length) ∨ i ≠ j ∧ e[j]? = some (.ow m u) := fun j m u z => by
    by_cases hj : i = j
    · subst hj
      have hi : i < e.length := by have := (List.getElem?_eq_some_iff.mp z).1; simpa using this
      rw [List.getElem?_set_self hi] at z
      cases z
      exact .inl ⟨rfl, rfl, rfl, hi⟩
    · rw [List.getElem?_set_ne hj] at z; exact .inr ⟨hj, z⟩
  have hfo : ∀ (P : Mode → Prop) j, FoM P (eta.set i (some (.ref n))) (e.set i (.ow .own v)) j → j = n ∨ FoM P eta e j := fun P j ⟨l, m', v', h0, h1, h2⟩ => by
    rcases hg l _ _ h1 with ⟨q1, q2, q3, hi⟩ | ⟨hj, h1⟩
    · subst q1
      rw [List.getElem?_set_self (by rw [R.len]; exact hi)] at h2
      cases h2; exact .inl rfl
    · rw [List.getElem?_set_ne hj] at h2
      exact .inr ⟨l, m', v', h0, h1, h2⟩
  have hb : ∀ j, Bd Av (eta.set i (some (.ref n))) (e.set i (.ow .own v)) j → Bd (fun j => Av j ∨ j = n) eta e j := fun j z => by
    rcases z with z | z
    · exact .inl (.inl z)
    · rcases hfo _ _ z with z | z
      · exact .inl (.inr z)
      · exact .inr z
  have key : ∀ j (u : MO), ¬ Bd (fun j => Av j ∨ j = n) eta e j → M[j]? = some u → ¬ Bd Av (eta.set i (some (.ref n))) (e.set i (.ow .own v)) j ∧ M[j]? = some u := fun n u a b => ⟨fun z => a (hb n z), b⟩
  refine ⟨⟨⟨by rw [List.length_set, List.length_set]; exact R.len, R.wf, R.src, R.asrc, R.av, fun j u z => ?_, fun j m u z => ?_, fun j l m1 v1 m2 v2 k a b c d => ?_⟩, fun P j z => ?_, a.le, a.fr, fun j m' u hm z => ?_, fun j m' u hm z => ?_⟩, hb⟩
  · by_cases hj : i = j
    · subst hj
      have hi : i < e.length := by have := (List.getElem?_eq_some_iff.mp z).1; simpa using this
      rw [List.getElem?_set_self hi] at z
      cases z
    · rw [List.getElem?_set_ne hj] at z
      obtain ⟨d', h1, h2⟩ := R2.sh j u z
      exact ⟨d', by rw [List.getElem?_set_ne hj]; exact h1, Is.mono key _ _ h2⟩
  · rcases hg j _ _ z with ⟨q1, q2, q3, hi⟩ | ⟨hj, z⟩
    · subst q1; subst q3
      exact ⟨n, o, by rw [List.getElem?_set_self (by rw [R.len]; exact hi)], hA, hn, Cel.mono key h⟩
    · obtain ⟨k, o, h1, h2, h3, h4⟩ := R2.ow j m u z
      exact ⟨k, o, by rw [List.getElem?_set_ne hj]; exact h1, fun q => h2 (.inl q), h3, Cel.mono key h4⟩
  · rcases hg j _ _ a with ⟨q1, q2, q3, hi⟩ | ⟨hj, a⟩
    · rcases hg l _ _ b with ⟨p1, p2, p3, hi'⟩ | ⟨hl, b⟩
      · rw [← q1, ← p1]
      · subst q1
        rw [List.getElem?_set_self (by rw [R.len]; exact hi)] at c
        rw [List.getElem?_set_ne hl] at d
        cases c
        obtain ⟨k', o', x1, x2, _⟩ := R2.ow l _ _ b
        rw [d] at x1; cases x1
        exact absurd (.inr rfl) x2
    · rcases hg l _ _ b with ⟨p1, p2, p3, hi'⟩ | ⟨hl, b⟩
      · subst p1
        rw [List.getElem?_set_self (by rw [R.len]; exact hi')] at d
        rw [List.getElem?_set_ne hj] at c
        cases d
        obtain ⟨k', o', x1, x2, _⟩ := R2.ow j _ _ a
        rw [c] at x1; cases x1
        exact absurd (.inr rfl) x2
      · rw [List.getElem?_set_ne hj] at c
        rw [List.getElem?_set_ne hl] at d
        exact R.dj j l _ _ _ _ k a b c d
  · rcases hfo P j z with z | z
    · exact .inr (by rw [z]; exact hk)
    · exact a.fo P j z
  · obtain ⟨⟨v', h1⟩, h2⟩ := a.io j m' u hm z
    have hj : i ≠ j := fun q => by subst q; rw [h1] at hf; cases m' <;> first | exact hm rfl | cases hf
    exact ⟨⟨v', by rw [List.getElem?_set_ne hj]; exact h1⟩, by rw [List.getElem?_set_ne hj]; exact h2⟩
  · rcases hg j _ _ z with ⟨q1, q2, _⟩ | ⟨_, z⟩
    · exact absurd q2 hm
    · exact a.oi j m' u hm z
def setW (e : PEnv) (i : Nat) (w : Bool) (v : PV) : PEnv := e.set i (if w = true then .ow .own v else .sh v)
/-- i = .. -/
def pSet (i : Nat) (p : PExp) : PStm := fun e => (p e).bind fun r => if slFree r.2.2[i]? = true then .ret (.nx (setW r.2.2 i r.1 r.2.1)) else .bad
theorem Rs.setW (a : Rs sc Av S etS eS M eta e) {i : Nat} {w : Bool} {v : PV} {d : D} (hf : slFree e[i]? = true) (h : VR sc Av S.length M eta e w v d) : Rs sc Av S etS eS M (eta.set i (some d)) (setW e i w v) := by
  unfold Ev.setW
  unfold VR at h
  cases w with
  | false =>
    simp only [Bool.false_eq_true, if_false] at h ⊢
    exact (a.setSh hf h).1
  | true =>
    simp only [if_true] at h ⊢
    obtain ⟨n, o, rfl, h1, h2, h3, h4, h5⟩ := h
    exact (a.setOw hf h1 h2 h3 h4 h5).1
theorem ss_set {i : Nat} {f : EvE} {p : PExp} (h : SE sc f p) : SS sc (sAsg (.nm i) f) (pSet i p) := .mk fun Av M eta e R => by
  unfold sAsg pSet
  refine h.thenS R fun d M' w v e' a hv => ?_
  simp only [asg]
  by_cases hf : slFree e'[i]? = true
  · rw [if_pos hf]
    exact ⟨_, _, rfl, a.setW hf hv⟩
  · rw [if_neg hf]; trivial
mutual
def pasg : Tgt → PV → PEnv → Option PEnv
  | .nm i, v, e => if slFree e[i]? = true then some (e.set i (.sh v)) else none
  | .tp ts, .tup vs, e => pasgs ts vs e
  | .tp ts, .lst vs, e => pasgs ts vs e
  | _, _, _ => none
def pasgs : List Tgt → List PV → PEnv → Option PEnv
  | [], [], e => some e
  | t :: ts, v :: vs, e => match pasg t v e with
    | some e' => pasgs ts vs e'
    | none => none
  | _, _, _ => none
end
mutual
theorem asg_is : ∀ (t : Tgt) (v : PV) (d : D) (eta : Env) (e e' : PEnv), Rs sc Av S etS eS M eta e → Is sc M (Bd Av eta e) v d → pasg t v e = some e' → ∃ eta', asg M t d eta = some eta' ∧ Rs sc Av S etS eS M eta' e' ∧ ∀ n, Bd Av eta' e' n → Bd Av eta e n
  | .nm i, v, d, eta, e, e', a, h, q => by
    simp only [pasg] at q
    split at q
    · rename_i hf
      cases q
      exact ⟨_, by simp only [asg], (a.setSh hf h).1, (a.setSh hf h).2⟩
    · cases q
  | .tp ts, v, d, eta, e, e', a, h, q => by
    cases v <;> simp only [pasg] at q <;> first | (cases q; done) | skip
    · obtain ⟨ds, rfl, h1, _⟩ := isB_tup (.inl h)
      simp only [asg, partsD]
      exact asgs_is ts _ ds eta e e' a h1 q
    · obtain ⟨n, ds, rfl, q0, h1, _⟩ := isB_lst (.inl h)
      simp only [asg, partsD, q0]
      exact asgs_is ts _ ds eta e e' a h1 q
theorem asgs_is : ∀ (ts : List Tgt) (vs : List PV) (ds : List D) (eta : Env) (e e' : PEnv), Rs sc Av S etS eS M eta e → IsL sc M (Bd Av eta e) vs ds → pasgs ts vs e = some e' → ∃ eta', asgs M ts ds eta = some eta' ∧ Rs sc Av S etS eS M eta' e' ∧ ∀ n, Bd Av eta' e' n → Bd Av eta e n
  | [], [], ds, eta, e, e', a, h, q => by
    simp only [IsL] at h; subst h
    simp only [pasgs] at q; cases q
    exact ⟨eta, by simp only [asgs], a, fun _ z => z⟩
  | [], v :: vs, ds, eta, e, e', a, h, q => by simp only [pasgs] at q; cases q
  | t :: ts, [], ds, eta, e, e', a, h, q => by simp only [pasgs] at q; cases q
  | t :: ts, v :: vs, ds, eta, e, e', a, h, q => by
    simp only [IsL] at h
    obtain ⟨d, es, rfl, h1, h2⟩ := h
    simp only [pasgs] at q
    cases hp : pasg t v e with
    | none => rw [hp] at q; cases q
    | some e1 =>
      rw [hp] at q
      obtain ⟨eta1, g1, g2, g3⟩ := asg_is t v d eta e e1 a h1 hp
      obtain ⟨eta2, g4, g5, g6⟩ := asgs_is ts vs es eta1 e1 e' g2 (IsL.mono (fun n o a b => ⟨fun z => a (g3 n z), b⟩) vs es h2) q
      exact ⟨eta2, by simp only [asgs, g1]; exact g4, g5, fun n z => g3 n (g6 n z)⟩
end
/-- (i, j) = .. -/
def pAsg (t : Tgt) (p : PExp) : PStm := fun e => (p e).bind fun r => match pasg t r.2.1 r.2.2 with
  | some e' => .ret (.nx e')
  | none => .bad
theorem ss_asg {t : Tgt} {f : EvE} {p : PExp} (h : SE sc f p) : SS sc (sAsg t f) (pAsg t p) := .mk fun Av M eta e R => by
  unfold sAsg pAsg
  refine h.thenS R fun d M' w v e' a hv => ?_
  simp only
  cases hp : pasg t v e' with
  | none => trivial
  | some e2 =>
    obtain ⟨eta2, g1, g2, _⟩ := asg_is t v d eta e' e2 a hv.is hp
    rw [g1]
    exact ⟨_, _, rfl, g2⟩
def pAug (i : Nat) (op : POp) (p : PExp) : PStm := fun e => match e[i]? with
  | some (.sh x) => (p e).bind fun r => (match op [x, r.2.1] with
    | some (false, z) => if slFree r.2.2[i]? = true then .ret (.nx (r.2.2.set i (.sh z))) else .bad
    | _ => .bad)
  | _ => .bad
theorem ss_aug {i : Nat} {op : D → D → Store → Out D} {pop : POp} {f : EvE} {p : PExp} (ho : OpSnd sc (F2 op) pop) (h : SE sc f p) : SS sc (sAug i op f) (pAug i pop p) := .mk fun Av M eta e R => by
  unfold sAug pAug
  cases hx : e[i]? with
  | none => trivial
  | some sl =>
    cases sl with
    | un => trivial
    | ow m v => trivial
    | sh x =>
      obtain ⟨d, h1, h2⟩ := R.sh i x hx
      rw [h1]
      simp only
      have e1 : OutS.bindE ((f eta M).bind fun y M1 => op d y M1) eta (fun z M2 => .nx (eta.set i (some z)) M2) = OutS.bindE (f eta M) eta fun y M1 => OutS.bindE (op d y M1) eta fun z M2 => .nx (eta.set i (some z)) M2 := by
        cases f eta M <;> rfl
      rw [e1]
      refine h.thenS R fun y M1 w v e1 a hv => ?_
      simp only
      split
      · rename_i z hz
        obtain ⟨r, q1, q2⟩ := ho M1 _ _ _ _ _ a.rel.ins (isBL_two (.inl (a.is R h2)) (.inl hv.is)) hz
        have q1' : op d y M1 = .ok r M1 := q1
        rw [q1']
        by_cases hf : slFree e1[i]? = true
        · rw [if_pos hf]
          exact ⟨_, _, rfl, (a.setSh hf q2).1⟩
        · rw [if_neg hf]; trivial
      · trivial
def opAddI : POp
  | [.int i, .int j] => some (false, .int (i + j))
  | _ => none
theorem snd_addI : OpSnd sc (F2 dAddI) opAddI := snd_ii fun vs w r e => by
  unfold opAddI at e
  split at e
  · cases e; exact ⟨_, _, rfl, rfl, _, fun _ => rfl, .inl ⟨_, rfl, rfl⟩⟩
  · cases e
end
def pEvs : List PExp → PEnv → C (List (Bool × PV) × PEnv)
  | [], e => .ret ([], e)
  | p :: q, e => (p e).bind fun r => (pEvs q r.2.2).bind fun s => .ret ((r.1, r.2.1) :: s.1, s.2)
def setWs : List Nat → List (Bool × PV) → PEnv → Option PEnv
  | [], [], e => some e
  | i :: is, (w, v) :: r, e => if slFree e[i]? = true then setWs is r (setW e i w v) else none
  | _, _, _ => none
def pPar (is : List Nat) (q : List PExp) : PStm := fun e => (pEvs q e).bind fun s => match setWs is s.1 s.2 with
  | some e' => .ret (.nx e')
  | none => .bad
/-- values, those that are fresh at the places N -/
def FRL (sc : SC) (k : Nat) (Av : NP) (M : Store) (B : NP) : List (Bool × PV) → List D → List Nat → Prop
  | [], ds, N => ds = [] ∧ N = []
  | (false, v) :: r, ds, N => ∃ d es, ds = d :: es ∧ Is sc M B v d ∧ FRL sc k Av M B r es N
  | (true, v) :: r, ds, N => ∃ n o es N', ds = .ref n :: es ∧ N = n :: N' ∧ k ≤ n ∧ ¬ Av n ∧ n ∉ N' ∧ M[n]? = some o ∧ Cel sc M B v o ∧ FRL sc k Av M B r es N'
section
variable {sc : SC} {Av : NP} {M M1 M' S : Store} {eta eta' eta1 etS : Env} {e e1 e' eS : PEnv} {B B' : NP}
theorem FRL.mono {k : Nat} (key : ∀ (n : Nat) (o : MO), ¬ B n → M[n]? = some o → ¬ B' n ∧ M'[n]? = some o) : ∀ {r : List (Bool × PV)} {ds : List D} {N : List Nat}, FRL sc k Av M B r ds N → (∀ n ∈ N, ∀ o, M[n]? = some o → M'[n]? = some o) → FRL sc k Av M' B' r ds N
  | [], ds, N, h, _ => by simpa only [FRL] using h
  | (false, v) :: r, ds, N, h, g => by
    simp only [FRL] at h ⊢
    obtain ⟨d, es, h0, h1, h2⟩ := h
    exact ⟨d, es, h0, Is.mono key _ _ h1, FRL.mono key h2 g⟩
  | (true, v) :: r, ds, N, h, g => by
    simp only [FRL] at h ⊢
    obtain ⟨n, o, es, N', h0, rfl, h1, h2, h3, h4, h5, h6⟩ := h
    exact ⟨n, o, es, N', h0, rfl, h1, h2, h3, g n (List.mem_cons_self ..) o h4, Cel.mono key h5, FRL.mono key h6 fun m hm => g m (List.mem_cons_of_mem _ hm)⟩
theorem FRL.le {k k' : Nat} (hk : k' ≤ k) : ∀ {r : List (Bool × PV)} {ds : List D} {N : List Nat}, FRL sc k Av M B r ds N → FRL sc k' Av M B r ds N
  | [], ds, N, h => by simpa only [FRL] using h
  | (false, v) :: r, ds, N, h => by
    simp only [FRL] at h ⊢
    obtain ⟨d, es, h0, h1, h2⟩ := h
    exact ⟨d, es, h0, h1, FRL.le hk h2⟩
  | (true, v) :: r, ds, N, h => by
    simp only [FRL] at h ⊢
    obtain ⟨n, o, es, N', h0, h00, h1, h2, h3, h4, h5, h6⟩ := h
    exact ⟨n, o, es, N', h0, h00, Nat.le_trans hk h1, h2, h3, h4, h5, FRL.le hk h6⟩
theorem FRL.av {Av' : NP} {k : Nat} (hk : ∀ n, Av' n → Av n) : ∀ {r : List (Bool × PV)} {ds : List D} {N : List Nat}, FRL sc k Av M B r ds N → FRL sc k Av' M B r ds N
  | [], ds, N, h => by simpa only [FRL] using h
  | (false, v) :: r, ds, N, h => by
    simp only [FRL] at h ⊢
    obtain ⟨d, es, h0, h1, h2⟩ := h
    exact ⟨d, es, h0, h1, FRL.av hk h2⟩
  | (true, v) :: r, ds, N, h => by
    simp only [FRL] at h ⊢
    obtain ⟨n, o, es, N', h0, h00, h1, h2, h3, h4, h5, h6⟩ := h
    exact ⟨n, o, es, N', h0, h00, h1, fun z => h2 (hk n z), h3, h4, h5, FRL.av hk h6⟩
theorem FRL.nav {k : Nat} : ∀ {r : List (Bool × PV)} {ds : List D} {N : List Nat}, FRL sc k Av M B r ds N → ∀ n ∈ N, ¬ Av n ∧ n < M.length
  | [], ds, N, h => by simp only [FRL] at h; rw [h.2]; simp
  | (false, v) :: r, ds, N, h => by
    simp only [FRL] at h
    obtain ⟨d, es, h0, h1, h2⟩ := h
    exact FRL.nav h2
  | (true, v) :: r, ds, N, h => by
    simp only [FRL] at h
    obtain ⟨n, o, es, N', h0, rfl, h1, h2, h3, h4, h5, h6⟩ := h
    intro m hm
    rcases List.mem_cons.mp hm with rfl | hm
    · exact ⟨h2, (List.getElem?_eq_some_iff.mp h4).1⟩
    · exact FRL.nav h6 m hm
abbrev AvN (Av : NP) (N : List Nat) : NP := fun j => Av j ∨ j ∈ N
end
end Ev
namespace Ev
open PySem L2
section
variable {sc : SC} {Av Av' : NP} {M M1 M' S : Store} {eta eta' eta1 etS : Env} {e e1 e' eS : PEnv} {B B' : NP}
theorem Rs.re (a : Rs sc Av S etS eS M eta e) (R : Rel sc Av' M eta e) : Rs sc Av' S etS eS M eta e := ⟨R, a.fo, a.le, a.fr, a.io, a.oi⟩
theorem Rs.less (a : Rs sc Av S etS eS M eta e) (h : ∀ n, Av' n → Av n) (hs : ∀ n, isSrc sc n → Av' n) : Rs sc Av' S etS eS M eta e := a.re (a.rel.less h hs)
theorem FRL.ge {k : Nat} : ∀ {r : List (Bool × PV)} {ds : List D} {N : List Nat}, FRL sc k Av M B r ds N → ∀ n ∈ N, k ≤ n
  | [], ds, N, h => by simp only [FRL] at h; rw [h.2]; simp
  | (false, v) :: r, ds, N, h => by
    simp only [FRL] at h
    obtain ⟨d, es, h0, h1, h2⟩ := h
    exact FRL.ge h2
  | (true, v) :: r, ds, N, h => by
    simp only [FRL] at h
    obtain ⟨n, o, es, N', h0, rfl, h1, h2, h3, h4, h5, h6⟩ := h
    intro m hm
    rcases List.mem_cons.mp hm with rfl | hm
    · exact h1
    · exact FRL.ge h6 m hm
def RVL (sc : SC) (Av : NP) (M : Store) (eta : Env) (e : PEnv) : List D → Store → List (Bool × PV) × PEnv → Prop := fun ds M' r => Rs sc Av M eta e M' eta r.2 ∧ ∃ N, Rel sc (AvN Av N) M' eta r.2 ∧ FRL sc M.length Av M' (Bd (AvN Av N) eta r.2) r.1 ds N
structure SV (sc : SC) (g : EvL) (q : List PExp)  : Prop where
  go : ∀ (Av : NP) (M : Store) (eta : Env) (e : PEnv), Rel sc Av M eta e → Ok (RVL sc Av M eta e) (XE sc Av M eta e) (g eta M) (pEvs q e)
instance {sc : SC} {g : EvL} {q : List PExp} : CoeFun (SV sc g q) (fun _ => ∀ (Av : NP) (M : Store) (eta : Env) (e : PEnv), Rel sc Av M eta e → Ok (RVL sc Av M eta e) (XE sc Av M eta e) (g eta M) (pEvs q e)) := ⟨SV.go⟩
theorem sv2_nil : SV sc lNil [] := .mk fun Av M eta e R => ⟨[], M, rfl, Rs.refl R, [], R.less (fun n h => h.elim id fun z => by simp at z) fun n h => .inl (R.asrc n h), by simp [FRL]⟩
theorem sv2_cons {f : EvE} {p : PExp} {g : EvL} {q : List PExp} (h : SE sc f p) (h' : SV sc g q) : SV sc (lCons f g) (p :: q) := .mk fun Av M eta e R => by
  unfold lCons pEvs
  refine Ok.bind (h Av M eta e R) (fun d M1 r ⟨a, hv⟩ => ?_) fun _ _ _ _ _ _ z => z
  obtain ⟨w, v, e1⟩ := r
  simp only at a hv ⊢
  cases w with
  | false =>
    have hi := hv.is
    refine Ok.bind (h' Av M1 eta e1 a.rel) (fun ds M2 s ⟨b, N, R2, F⟩ => ?_) (XE.mono a)
    have key : ∀ (n : Nat) (o : MO), ¬ Bd Av eta e1 n → M1[n]? = some o → ¬ Bd (AvN Av N) eta s.2 n ∧ M2[n]? = some o := fun n o x y => by
      obtain ⟨k1, k2⟩ := b.keep a.rel n o x y
      refine ⟨fun z => ?_, k2⟩
      have hl := (List.getElem?_eq_some_iff.mp y).1
      rcases z with (z | z) | z
      · exact k1 (.inl z)
      · have := F.ge n z; omega
      · exact k1 (.inr z)
    exact ⟨_, _, rfl, a.trans b, N, R2, by simp only [FRL]; exact ⟨d, ds, rfl, Is.mono key _ _ hi, F.le a.le⟩⟩
  | true =>
    unfold VR at hv
    simp only [if_true] at hv
    obtain ⟨n, o, rfl, h1, h2, h3, R1, h4⟩ := hv
    refine Ok.bind (h' _ M1 eta e1 R1) (fun ds M2 s ⟨b, N, R2, F⟩ => ?_) (fun x fs M' ns vs e' z => ⟨a.trans (z.1.less (fun n h => .inl h) a.rel.asrc), z.2.1, IsL.mono (fun j u x y => ⟨fun q => x (q.elim (fun q => .inl (.inl q)) .inr), y⟩) _ _ z.2.2⟩)
    have hav : ∀ j, AvN Av (n :: N) j ↔ AvN (fun j => Av j ∨ j = n) N j := fun j => by
      simp only [AvN, List.mem_cons]
      constructor
      · rintro (z | z | z)
        · exact .inl (.inl z)
        · exact .inl (.inr z)
        · exact .inr z
      · rintro ((z | z) | z)
        · exact .inl z
        · exact .inr (.inl z)
        · exact .inr (.inr z)
    have key : ∀ (j : Nat) (u : MO), ¬ Bd (fun j => Av j ∨ j = n) eta e1 j → M1[j]? = some u → ¬ Bd (AvN Av (n :: N)) eta s.2 j ∧ M2[j]? = some u := fun j u x y => by
      obtain ⟨k1, k2⟩ := b.keep R1 j u x y
      refine ⟨fun z => ?_, k2⟩
      have hl := (List.getElem?_eq_some_iff.mp y).1
      rcases z with z | z
      · rcases (hav j).mp z with z | z
        · exact k1 (.inl z)
        · have := F.ge j z; omega
      · exact k1 (.inr z)
    have hn2 : M2[n]? = some o := by
      rw [b.fr n (List.getElem?_eq_some_iff.mp h3).1 (fun z => R1.fo_av z (.inr rfl)) (fun z => h2 (a.rel.asrc n z))]; exact h3
    refine ⟨_, _, rfl, a.trans (b.less (fun n h => .inl h) a.rel.asrc), n :: N, R2.less (fun j z => (hav j).mp z) (fun j z => .inl (a.rel.asrc j z)), ?_⟩
    simp only [FRL]
    refine ⟨n, o, ds, N, rfl, rfl, h1, h2, fun z => (F.nav n z).1 (.inr rfl), hn2, Cel.mono key h4, ?_⟩
    exact ((F.le a.le).av fun j z => .inl z).mono (fun j u x y => ⟨fun z => x (z.elim (fun z => .inl ((hav j).mp z)) .inr), y⟩) fun _ _ _ y => y
theorem setWs_ok : ∀ (is : List Nat) (rs : List (Bool × PV)) (ds : List D) (N : List Nat) (eta : Env) (e e' : PEnv), Rs sc (AvN Av N) S etS eS M eta e → (∀ n, isSrc sc n → Av n) → FRL sc S.length Av M (Bd (AvN Av N) eta e) rs ds N → setWs is rs e = some e' →
    ∃ eta', setAll is ds eta = some eta' ∧ Rs sc Av S etS eS M eta' e'
  | [], [], ds, N, eta, e, e', a, hs, F, q => by
    simp only [FRL] at F
    obtain ⟨rfl, rfl⟩ := F
    simp only [setWs] at q; cases q
    exact ⟨eta, by simp only [setAll], a.less (fun n h => .inl h) hs⟩
  | [], _ :: _, ds, N, eta, e, e', a, hs, F, q => by simp only [setWs] at q; cases q
  | i :: is, [], ds, N, eta, e, e', a, hs, F, q => by simp only [setWs] at q; cases q
  | i :: is, (false, v) :: rs, ds, N, eta, e, e', a, hs, F, q => by
    simp only [FRL] at F
    obtain ⟨d, es, rfl, h1, F⟩ := F
    simp only [setWs] at q
    split at q
    · rename_i hf
      simp only [setW, Bool.false_eq_true, if_false] at q
      obtain ⟨a1, hb⟩ := a.setSh hf h1
      obtain ⟨eta2, g1, g2⟩ := setWs_ok is rs es N _ _ e' a1 hs (F.mono (fun j u x y => ⟨fun z => x (hb j z), y⟩) fun _ _ _ y => y) q
      exact ⟨eta2, by simp only [setAll]; exact g1, g2⟩
    · cases q
  | i :: is, (true, v) :: rs, ds, N, eta, e, e', a, hs, F, q => by
    simp only [FRL] at F
    obtain ⟨n, o, es, N', rfl, rfl, h1, h2, h3, h4, h5, F⟩ := F
    simp only [setWs] at q
    split at q
    · rename_i hf
      simp only [setW, if_true] at q
      have hav : ∀ j, AvN Av (n :: N') j ↔ (AvN Av N' j ∨ j = n) := fun j => by
        simp only [AvN, List.mem_cons]
        constructor
        · rintro (z | z | z)
          · exact .inl (.inl z)
          · exact .inr z
          · exact .inl (.inr z)
        · rintro ((z | z) | z)
          · exact .inl z
          · exact .inr (.inr z)
          · exact .inr (.inl z)
      have hbd : ∀ j, Bd (fun j => AvN Av N' j ∨ j = n) eta e j → Bd (AvN Av (n :: N')) eta e j := fun j z => z.elim (fun z => .inl ((hav j).mpr z)) .inr
      have hsN : ∀ j, isSrc sc j → AvN Av N' j := fun j z => .inl (hs j z)
      obtain ⟨a1, hb⟩ := (a.less (fun j z => (hav j).mpr (.inl z)) hsN).setOw (v := v) (o := o) hf h1 (fun z => z.elim h2 h3) h4 (a.rel.less (fun j z => (hav j).mpr z) fun j z => .inl (hsN j z)) (Cel.mono (fun j u x y => ⟨fun z => x (hbd j z), y⟩) h5)
      obtain ⟨eta2, g1, g2⟩ := setWs_ok is rs es N' _ _ e' a1 hs (F.mono (fun j u x y => ⟨fun z => x (hbd j (hb j z)), y⟩) fun _ _ _ y => y) q
      exact ⟨eta2, by simp only [setAll]; exact g1, g2⟩
    · cases q
theorem ss_par {is : List Nat} {g : EvL} {q : List PExp} (h : SV sc g q) : SS sc (sPar is g) (pPar is q) := .mk fun Av M eta e R => by
  unfold sPar pPar
  refine OkS.bindE (h Av M eta e R) fun ds M' r ⟨a, N, R2, F⟩ => ?_
  cases hp : setWs is r.1 r.2 with
  | none => trivial
  | some e2 =>
    obtain ⟨eta2, g1, g2⟩ := setWs_ok is r.1 ds N eta r.2 e2 (a.re R2) R.asrc F hp
    rw [g1]
    exact ⟨_, _, rfl, g2⟩
end
abbrev PIt := PEnv → C (List PV × PEnv)
def RI (sc : SC) (Av : NP) (M : Store) (eta : Env) (e : PEnv) : Iter → Store → List PV × PEnv → Prop := fun J M' r => Rs sc Av M eta e M' eta r.2 ∧ r.1.length ≤ cap ∧ ∃ ds, IsL sc M' (Bd Av eta r.2) r.1 ds ∧
  ∀ (M2 : Store), (∀ (n : Nat) (o : MO), ¬ Bd Av eta r.2 n → M'[n]? = some o → M2[n]? = some o) → ∀ i, J i M2 = some ds[i]?
structure SI (sc : SC) (f : EvIt) (p : PIt)  : Prop where
  go : ∀ (Av : NP) (M : Store) (eta : Env) (e : PEnv), Rel sc Av M eta e → Ok (RI sc Av M eta e) (XE sc Av M eta e) (f eta M) (p e)
instance {sc : SC} {f : EvIt} {p : PIt} : CoeFun (SI sc f p) (fun _ => ∀ (Av : NP) (M : Store) (eta : Env) (e : PEnv), Rel sc Av M eta e → Ok (RI sc Av M eta e) (XE sc Av M eta e) (f eta M) (p e)) := ⟨SI.go⟩
def strL (z : Str) : List PV := z.cps.toList.map fun c => .str ⟨#[c]⟩
def itemsP : PV → Option (List PV)
  | .tup vs => some vs
  | .lst vs => some vs
  | .str z => if z.cps.size ≤ cap then some (strL z) else none
  | _ => none
def pItE (p : PExp) : PIt := fun e => (p e).bind fun r => match itemsP r.2.1 with
  | some vs => .ret (vs, r.2.2)
  | none => .bad
def rgP (lo c : Int) (n : Nat) : List PV := (List.range n).map fun (i : Nat) => .int (lo + (i : Int) * c)
def rgP1 (lo : Int) (n : Nat) : List PV := (List.range n).map fun (i : Nat) => .int (lo + (i : Int))
abbrev ItF := List PV → Option (List PV)
def rg1P : ItF
  | [.int j] => if j.natAbs ≤ 4611686018427387903 ∧ j.toNat ≤ cap then some (rgP1 0 j.toNat) else none
  | _ => none
def rg2P : ItF
  | [.int i, .int j] => if (i.natAbs ≤ 4611686018427387903 ∧ j.natAbs ≤ 4611686018427387903) ∧ (j - i).toNat ≤ cap then some (rgP1 i (j - i).toNat) else none
  | _ => none
def rg3P : ItF
  | [.int i, .int j, .int c] => if (c ≠ 0 ∧ c.natAbs < 1073741824 ∧ Builtin.Range.small i j c = true ∧ 0 ≤ Builtin.Range.rangeSize i j c) ∧ (Builtin.Range.rangeSize i j c).toNat ≤ cap then some (rgP i c (Builtin.Range.rangeSize i j c).toNat) else none
  | _ => none
def pItK (f : ItF) (v : Option (List PV)) (e : PEnv) : C (List PV × PEnv) := match v with
  | some vs => (match f vs with
    | some us => .ret (us, e)
    | none => .bad)
  | none => .bad
/-- what is walked is told by operands; kept: the operands are held meanwhile -/
def pItB (f : ItF) (q : POps) : PIt := fun e => (pOps q e).bind fun r => pItK f (rdAs r.2 r.1) r.2
def pItV (f : ItF) (q : POps) : PIt := fun e => (pOps q e).bind fun r => pItK f (valA r.1) r.2
def enumL (k : Nat) : List PV → List PV
  | [] => []
  | v :: vs => .tup [.int k, v] :: enumL (k + 1) vs
def enumP : ItF
  | [.tup vs] => some (enumL 0 vs)
  | [.lst vs] => some (enumL 0 vs)
  | _ => none
section
variable {sc : SC} {Av Av' : NP} {M M1 M' S : Store} {eta eta' eta1 etS : Env} {e e1 e' eS : PEnv} {B B' : NP}
theorem isL_map {α : Type} (l : List α) (f : α → PV) (g : α → D) (h : ∀ a ∈ l, Is sc M B (f a) (g a)) : IsL sc M B (l.map f) (l.map g) := by
  induction l with
  | nil => exact IsL.nil
  | cons a l ih => exact IsL.cons (h a (List.mem_cons_self ..)) (ih fun b hb => h b (List.mem_cons_of_mem _ hb))
theorem items_ok (R : Rel sc Av M eta e) {v : PV} {d : D} {vs : List PV} (h : Is sc M (Bd Av eta e) v d) (hi : itemsP v = some vs) : ∃ J, itD d M = .ok J M ∧ vs.length ≤ cap ∧ ∃ ds, IsL sc M (Bd Av eta e) vs ds ∧ ∀ (M2 : Store), (∀ (n : Nat) (o : MO), ¬ Bd Av eta e n → M[n]? = some o → M2[n]? = some o) → ∀ i, J i M2 = some ds[i]? := by
  cases v <;> simp only [itemsP] at hi <;> first | (cases hi; done) | skip
  · rename_i z
    split at hi
    · rename_i hc
      cases hi
      rw [isB_str (.inl h)]
      refine ⟨_, rfl, by simpa [strL] using hc, z.cps.toList.map fun c => .str ⟨#[c]⟩, isL_map _ _ _ fun c _ => by simp [Is], fun M2 _ i => ?_⟩
      simp only [itStr, List.getElem?_map, Array.getElem?_toList]
    · cases hi
  · cases hi
    obtain ⟨ds, rfl, h1, h2⟩ := isB_tup (.inl h)
    exact ⟨_, rfl, h2, ds, h1, fun M2 _ i => rfl⟩
  · cases hi
    simp only [Is] at h
    obtain ⟨n, ds, rfl, hb, q, h1, h2⟩ := h
    exact ⟨_, by simp only [itD, liveAt_of q]; rfl, h2, ds, h1, fun M2 k i => by simp only [itLive, liveAt_of (k n _ hb q), Option.map]⟩
theorem si_val {f : EvE} {p : PExp} (h : SE sc f p) : SI sc (itE f) (pItE p) := .mk fun Av M eta e R => by
  unfold itE pItE
  refine h.then_ (Rs.refl R) fun d M1 w v e1 a _ hv => ?_
  simp only
  cases hi : itemsP v with
  | none => trivial
  | some vs =>
    obtain ⟨J, q1, q2, q3⟩ := items_ok a.rel hv.is hi
    exact ⟨J, M1, q1, a, q2, q3⟩
theorem rg_at (lo : Int) (n i : Nat) (M2 : Store) : itRg lo n i M2 = some ((List.range n).map fun i => D.int (lo + (i : Nat)))[i]? := by
  simp only [itRg, List.getElem?_map]
  by_cases hi : i < n
  · simp [hi]
  · simp [hi]
theorem rgC_at (lo c : Int) (n i : Nat) (M2 : Store) : itRgC lo c n i M2 = some ((List.range n).map fun i => D.int (lo + (i : Nat) * c))[i]? := by
  simp only [itRgC, List.getElem?_map]
  by_cases hi : i < n
  · simp [hi]
  · simp [hi]
def IterOk (sc : SC) (M : Store) (B : NP) (J : Iter) (us : List PV) : Prop := us.length ≤ cap ∧ ∃ es, IsL sc M B us es ∧ ∀ (M2 : Store), (∀ (n : Nat) (o : MO), ¬ B n → M[n]? = some o → M2[n]? = some o) → ∀ i, J i M2 = some es[i]?
theorem si_B {G : List D → Store → Out Iter} {f : ItF} {g : EvL} {q : POps} (k : ∀ M B vs ds us, IsBL sc M B vs ds → f vs = some us → ∃ J, G ds M = .ok J M ∧ IterOk sc M B J us) (h : SL sc g q) : SI sc (fun eta M => (g eta M).bind G) (pItB f q) := .mk fun Av M eta e R => by
  unfold pItB
  refine h.then_ (Rs.refl R) fun ds M1 as e1 a _ har => ?_
  simp only
  unfold pItK
  cases hv : rdAs e1 as with
  | none => trivial
  | some vs =>
    simp only
    cases hf : f vs with
    | none => trivial
    | some us =>
      obtain ⟨J, g1, g2, es, g3, g4⟩ := k M1 _ vs ds us (rdAs_ok a.rel har hv) hf
      exact ⟨J, M1, g1, a, g2, es, g3, g4⟩
theorem si_V {G : List D → Store → Out Iter} {f : ItF} {g : EvL} {q : POps} (k : ∀ M B vs ds us, IsL sc M B vs ds → f vs = some us → ∃ J, G ds M = .ok J M ∧ IterOk sc M B J us) (h : SL sc g q) : SI sc (fun eta M => (g eta M).bind G) (pItV f q) := .mk fun Av M eta e R => by
  unfold pItV
  refine h.then_ (Rs.refl R) fun ds M1 as e1 a _ har => ?_
  simp only
  unfold pItK
  cases hv : valA as with
  | none => trivial
  | some vs =>
    simp only
    cases hf : f vs with
    | none => trivial
    | some us =>
      obtain ⟨J, g1, g2, es, g3, g4⟩ := k M1 _ vs ds us (valA_ok har hv) hf
      exact ⟨J, M1, g1, a, g2, es, g3, g4⟩
theorem si_rg1 {g : EvL} {q : POps} (h : SL sc g q) : SI sc (itRange1 g) (pItB rg1P q) := si_B (fun M B vs ds us hl e => by
  unfold rg1P at e
  split at e
  · split at e
    · rename_i hc
      cases e
      obtain ⟨d, rfl, h1⟩ := bl_one hl
      rw [isB_int h1]
      exact ⟨_, if_pos (nb62 hc.1), by simpa [rgP1] using hc.2, _, isL_map _ _ (fun i => D.int (0 + (i : Nat))) fun c _ => by simp [Is], fun M2 _ i => rg_at _ _ _ _⟩
    · cases e
  · cases e) h
theorem si_rg2 {g : EvL} {q : POps} (h : SL sc g q) : SI sc (itRange2 g) (pItB rg2P q) := si_B (fun M B vs ds us hl e => by
  unfold rg2P at e
  split at e
  · split at e
    · rename_i i j hc
      cases e
      obtain ⟨x, y, rfl, h1, h2⟩ := bl_two hl
      rw [isB_int h1, isB_int h2]
      exact ⟨_, if_pos ⟨(nb62 hc.1.1).1, (nb62 hc.1.1).2, (nb62 hc.1.2).1, (nb62 hc.1.2).2⟩, by simpa [rgP1] using hc.2, _, isL_map _ _ (fun k => D.int (i + (k : Nat))) fun c _ => by simp [Is], fun M2 _ i => rg_at _ _ _ _⟩
    · cases e
  · cases e) h
theorem si_rg3 {g : EvL} {q : POps} (h : SL sc g q) : SI sc (itRange3 g) (pItB rg3P q) := si_B (fun M B vs ds us hl e => by
  unfold rg3P at e
  split at e
  · split at e
    · rename_i i j c hc
      cases e
      obtain ⟨x, y, z, rfl, h1, h2, h3⟩ := bl_three hl
      rw [isB_int h1, isB_int h2, isB_int h3]
      exact ⟨_, if_pos hc.1, by simpa [rgP] using hc.2, _, isL_map _ _ (fun k => D.int (i + (k : Nat) * c)) fun c _ => by simp [Is], fun M2 _ i => rgC_at _ _ _ _ _⟩
    · cases e
  · cases e) h
def enumD (k : Nat) : List D → List D
  | [] => []
  | v :: vs => .tup [.int k, v] :: enumD (k + 1) vs
theorem enumD_at : ∀ (ds : List D) (k i : Nat), (enumD k ds)[i]? = ds[i]?.map fun d => .tup [.int ((k + i : Nat) : Int), d]
  | [], k, i => by simp [enumD]
  | d :: ds, k, 0 => by simp [enumD]
  | d :: ds, k, i + 1 => by
    simp only [enumD, List.getElem?_cons_succ]
    rw [enumD_at ds (k + 1) i, show k + 1 + i = k + (i + 1) by omega]
theorem enum_is : ∀ {vs : List PV} {ds : List D} (k : Nat), IsL sc M B vs ds → IsL sc M B (enumL k vs) (enumD k ds)
  | [], ds, k, h => by simp only [IsL] at h; subst h; exact IsL.nil
  | v :: vs, ds, k, h => by
    simp only [IsL] at h
    obtain ⟨d, es, rfl, h2, h3⟩ := h
    simp only [enumL, enumD]
    refine IsL.cons ?_ (enum_is (k + 1) h3)
    simp only [Is]; exact ⟨_, rfl, IsL.cons (by simp [Is]) (IsL.cons h2 IsL.nil), by simp [cap]⟩
theorem enumL_len : ∀ (vs : List PV) (k : Nat), (enumL k vs).length = vs.length
  | [], k => rfl
  | v :: vs, k => by simp only [enumL, List.length_cons, enumL_len vs (k + 1)]
theorem si_enum {g : EvL} {q : POps} (h : SL sc g q) : SI sc (itEnum g) (pItV enumP q) := si_V (fun M B vs ds us hl e => by
  unfold enumP at e
  split at e
  · cases e
    obtain ⟨d, rfl, h1⟩ := isL_one hl
    obtain ⟨es, rfl, h2, h3⟩ := isB_tup (.inl h1)
    refine ⟨_, rfl, by rw [enumL_len]; exact h3, enumD 0 es, enum_is 0 h2, fun M2 _ i => ?_⟩
    simp only [itEnumV, enumD_at, Nat.zero_add]
  · cases e
    obtain ⟨d, rfl, h1⟩ := isL_one hl
    simp only [Is] at h1
    obtain ⟨n, es, rfl, hb, q, h2, h3⟩ := h1
    refine ⟨_, by simp only [liveAt_of q]; rfl, by rw [enumL_len]; exact h3, enumD 0 es, enum_is 0 h2, fun M2 k i => ?_⟩
    simp only [itEnumL, liveAt_of (k n _ hb q), enumD_at, Nat.zero_add, Option.map]
  · cases e) h
end
def pForK (loop : PEnv → C PR) : PR → C PR
  | .nx e => loop e
  | .ct e => loop e
  | .bk e => .ret (.nx e)
  | .rt w v e => .ret (.rt w v e)
def pForL (t : Tgt) (b : PStm) : List PV → PEnv → C PR
  | [], e => .ret (.nx e)
  | v :: vs, e => match pasg t v e with
    | none => .bad
    | some e1 => (b e1).bind (pForK (pForL t b vs))
def pFor (it : PIt) (t : Tgt) (b : PStm) : PStm := fun e => (it e).bind fun r => pForL t b r.1 r.2
def pWhile (c : PStop) (b : PStm) : Nat → PStm
  | 0 => fun _ => .bad
  | n + 1 => fun e => (c e).bind fun r => if r.1 = true then (b r.2).bind (pForK (pWhile c b n)) else .ret (.nx r.2)
section
variable {sc : SC} {Av Av' : NP} {M M1 M' S : Store} {eta eta' eta1 etS : Env} {e e1 e' eS : PEnv} {B B' : NP}
theorem OkS.loop {o : OutS} {g : Env → Store → OutS} {q : PEnv → C PR} (k : ∀ eta' M' e', Rs sc Av M eta e M' eta' e' → OkS sc Av M eta e (g eta' M') (q e')) : ∀ {c : C PR}, OkS sc Av M eta e o c → OkS sc Av M eta e (match o with
    | .nx eta' M' => g eta' M'
    | .ct eta' M' => g eta' M'
    | .bk eta' M' => .nx eta' M'
    | o => o) (c.bind (pForK q))
  | .ret (.nx e'), h => by obtain ⟨t, M', rfl, h2⟩ := h; exact k _ _ _ h2
  | .ret (.bk e'), h => by obtain ⟨t, M', rfl, h2⟩ := h; exact ⟨t, M', rfl, h2⟩
  | .ret (.ct e'), h => by obtain ⟨t, M', rfl, h2⟩ := h; exact k _ _ _ h2
  | .ret (.rt w v e'), h => by obtain ⟨d, M', t, rfl, h2⟩ := h; exact ⟨d, M', t, rfl, h2⟩
  | .exc x ns vs e', h => by obtain ⟨fs, M', t, rfl, h2⟩ := h; exact ⟨fs, M', t, rfl, h2⟩
  | .draw k f, h => by obtain ⟨i, hi, h⟩ := h; exact ⟨i, hi, OkS.loop (by assumption) h⟩
  | .bad, _ => trivial
theorem for_is {J : Iter} {t : Tgt} {f : EvS} {p : PStm} (h : SS sc f p) {Mi : Store} {eti : Env} {ei : PEnv} (Ri : Rel sc Av Mi eti ei) (ds : List D) (hJ : ∀ (M2 : Store), (∀ (n : Nat) (o : MO), ¬ Bd Av eti ei n → Mi[n]? = some o → M2[n]? = some o) → ∀ i, J i M2 = some ds[i]?) :
    ∀ (vs : List PV) (m i : Nat) (M : Store) (eta : Env) (e : PEnv), vs.length < m → Rs sc Av Mi eti ei M eta e → IsL sc M (Bd Av eta e) vs (ds.drop i) → OkS sc Av M eta e (forLoop J t f m i eta M) (pForL t p vs e)
  | [], m, i, M, eta, e, hm, a, hl => by
    simp only [IsL] at hl
    have hj := hJ M (fun n o x y => (a.keep Ri n o x y).2) i
    have hd : ds[i]? = none := by
      have : (ds.drop i)[0]? = none := by rw [hl]; rfl
      rwa [List.getElem?_drop, Nat.add_zero] at this
    match m, hm with
    | m + 1, hm =>
      unfold forLoop pForL
      rw [hj, hd]
      exact ⟨_, _, rfl, Rs.refl a.rel⟩
  | v :: vs, m, i, M, eta, e, hm, a, hl => by
    simp only [IsL] at hl
    obtain ⟨d, es, hd, h1, h2⟩ := hl
    have hj := hJ M (fun n o x y => (a.keep Ri n o x y).2) i
    have hdi : ds[i]? = some d := by
      have : (ds.drop i)[0]? = some d := by rw [hd]; rfl
      rwa [List.getElem?_drop, Nat.add_zero] at this
    have hes : es = ds.drop (i + 1) := by
      have : (ds.drop i).drop 1 = es := by rw [hd]; rfl
      rw [← this, List.drop_drop]
    match m, hm with
    | m + 1, hm =>
      unfold forLoop pForL
      rw [hj, hdi]
      simp only
      cases hp : pasg t v e with
      | none => trivial
      | some e1 =>
        obtain ⟨eta1, g1, g2, g3⟩ := asg_is t v d eta e e1 (Rs.refl a.rel) h1 hp
        rw [g1]
        simp only
        refine OkS.from g2 ?_
        refine OkS.loop (fun eta' M' e' b => OkS.from b ?_) (h Av M eta1 e1 g2.rel)
        have h2' : IsL sc M (Bd Av eta1 e1) vs es := IsL.mono (fun n o x y => ⟨fun z => x (g3 n z), y⟩) _ _ h2
        have ab := a.trans (g2.trans b)
        exact for_is h Ri ds hJ vs m (i + 1) M' eta' e' (by simp at hm; omega) ab (by rw [← hes]; exact b.isL g2.rel h2')
theorem ss_for {it : EvIt} {pi : PIt} {t : Tgt} {f : EvS} {p : PStm} (hi : SI sc it pi) (h : SS sc f p) : SS sc (sFor it t f) (pFor pi t p) := .mk fun Av M eta e R => by
  unfold sFor pFor
  refine OkS.bindE (hi Av M eta e R) fun J M1 r ⟨a, hc, ds, h1, h2⟩ => ?_
  have hf : cap < FUEL := by unfold FUEL cap; decide
  exact OkS.from a (for_is h a.rel ds h2 r.1 FUEL 0 M1 eta r.2 (by omega) (Rs.refl a.rel) h1)
theorem while_is {c : EvT} {f : EvS} {pc : PStop} {p : PStm} (hc : ST sc c pc) (h : SS sc f p) : ∀ (n m : Nat) (Av : NP) (M : Store) (eta : Env) (e : PEnv), n ≤ m → Rel sc Av M eta e → OkS sc Av M eta e (sWhile c f m eta M) (pWhile pc p n e)
  | 0, m, Av, M, eta, e, hm, R => trivial
  | n + 1, m + 1, Av, M, eta, e, hm, R => by
    unfold sWhile pWhile
    refine hc.thenS R fun b M' e' a => ?_
    cases b with
    | false => exact ⟨_, _, rfl, a⟩
    | true =>
      simp only [if_true]
      refine OkS.from a ?_
      exact OkS.loop (fun eta2 M2 e2 b => OkS.from b (while_is hc h n m Av M2 eta2 e2 (by omega) b.rel)) (h Av M' eta e' a.rel)
theorem ss_while {c : EvT} {f : EvS} {pc : PStop} {p : PStm} (n : Nat) (hn : n ≤ 20000000) (hc : ST sc c pc) (h : SS sc f p) : SS sc (sWhile c f FUEL) (pWhile pc p n) := .mk fun Av M eta e R =>
  while_is hc h n FUEL Av M eta e (by unfold FUEL; exact hn) R
end
end Ev
namespace Ev
open PySem L2
def C.noX {α : Type} : C α → C α
  | .ret a => .ret a
  | .exc _ _ _ _ => .bad
  | .draw k f => .draw k fun i => (f i).noX
  | .bad => .bad
theorem Ok.noX {α β : Type} {R : β → Store → α → Prop} {X X' : XR} {o : Out β} : ∀ {c : C α}, Ok R X o c → Ok R X' (Ev.noX o) c.noX
  | .ret a, h => by obtain ⟨b, M', rfl, h2⟩ := h; exact ⟨b, M', rfl, h2⟩
  | .exc x ns vs e, h => trivial
  | .draw n f, h => by obtain ⟨i, hi, h⟩ := h; exact ⟨i, hi, Ok.noX h⟩
  | .bad, _ => trivial
def wipeP (e : PEnv) : List Nat → PEnv
  | [] => e
  | v :: vs => (wipeP e vs).set v .un
def backP (e0 e : PEnv) : List Nat → PEnv
  | [] => e
  | v :: vs => (backP e0 e vs).set v (e0.getD v .un)
def slPlain : Option PSlot → Bool
  | some (.ow _ _) => false
  | _ => true
def pLcL (t : Tgt) (vs : List Nat) (c : PStop) (f : PExp) : List PV → PEnv → List PV → C (List PV × PEnv)
  | [], e, acc => .ret (acc, e)
  | u :: us, e, acc => match pasg t u e with
    | none => .bad
    | some e1 => (c e1).noX.bind fun r => if r.1 = true then ((f r.2).noX.bind fun s => if acc.length < cap then pLcL t vs c f us (wipeP s.2.2 vs) (acc ++ [s.2.1]) else .bad) else pLcL t vs c f us (wipeP r.2 vs) acc
def lcOk (t : Tgt) (vs : List Nat) (e : PEnv) : Bool := t.slots.all (fun i => decide (i ∈ vs)) && vs.all fun i => slPlain e[i]?
@[irreducible] def pLc (it : PIt) (t : Tgt) (vs : List Nat) (c : PStop) (f : PExp) : PExp := fun e => (it e).bind fun r => if lcOk t vs r.2 = true then (pLcL t vs c f r.1 (wipeP r.2 vs) []).bind fun s => .ret (true, .lst s.1, backP r.2 s.2 vs) else .bad
def pYes : PStop := fun e => .ret (true, e)
theorem wipeE_get (eta : Env) (j : Nat) : ∀ vs : List Nat, (wipeE eta vs)[j]? = if j ∈ vs then eta[j]?.map (fun _ => none) else eta[j]?
  | [] => by simp [wipeE]
  | v :: vs => by
    have len : (wipeE eta vs).length = eta.length := by
      clear j
      induction vs with
      | nil => rfl
      | cons u us ih => simp only [wipeE, List.length_set, ih]
    simp only [wipeE, List.mem_cons]
    by_cases hj : v = j
    · subst hj
      simp only [true_or, if_true, List.getElem?_set, len]
      by_cases hl : v < eta.length
      · simp [hl]
      · simp [hl]
    · have hj' : ¬ j = v := fun q => hj q.symm
      rw [List.getElem?_set_ne hj, wipeE_get eta j vs]
      simp only [hj', false_or]
theorem wipeP_get (e : PEnv) (j : Nat) : ∀ vs : List Nat, (wipeP e vs)[j]? = if j ∈ vs then e[j]?.map (fun _ => PSlot.un) else e[j]?
  | [] => by simp [wipeP]
  | v :: vs => by
    have len : (wipeP e vs).length = e.length := by
      clear j
      induction vs with
      | nil => rfl
      | cons u us ih => simp only [wipeP, List.length_set, ih]
    simp only [wipeP, List.mem_cons]
    by_cases hj : v = j
    · subst hj
      simp only [true_or, if_true, List.getElem?_set, len]
      by_cases hl : v < e.length
      · simp [hl]
      · simp [hl]
    · have hj' : ¬ j = v := fun q => hj q.symm
      rw [List.getElem?_set_ne hj, wipeP_get e j vs]
      simp only [hj', false_or]
theorem wipeP_len (e : PEnv) : ∀ vs : List Nat, (wipeP e vs).length = e.length
  | [] => rfl
  | v :: vs => by simp only [wipeP, List.length_set, wipeP_len e vs]
theorem backP_len (e0 e : PEnv) : ∀ vs : List Nat, (backP e0 e vs).length = e.length
  | [] => rfl
  | v :: vs => by simp only [backP, List.length_set, backP_len e0 e vs]
theorem backP_get (e0 e : PEnv) (hl : e0.length = e.length) (j : Nat) : ∀ vs : List Nat, (backP e0 e vs)[j]? = if j ∈ vs then e0[j]? else e[j]?
  | [] => by simp [backP]
  | v :: vs => by
    simp only [backP, List.mem_cons]
    by_cases hj : v = j
    · subst hj
      simp only [true_or, if_true, List.getElem?_set, backP_len, ← hl]
      by_cases hl : v < e0.length
      · simp [hl, List.getD_eq_getElem?_getD, List.getElem?_eq_getElem hl]
      · simp [hl]
    · have hj' : ¬ j = v := fun q => hj q.symm
      rw [List.getElem?_set_ne hj, backP_get e0 e hl j vs]
      simp only [hj', false_or]
mutual
theorem asg_wipe {M : Store} {vs : List Nat} : ∀ (t : Tgt) (d : D) (eta eta1 : Env), asg M t d eta = some eta1 → (∀ i ∈ t.slots, i ∈ vs) → ∀ j, j ∉ vs → eta1[j]? = eta[j]?
  | .nm i, d, eta, eta1, h, hs, j, hj => by
    simp only [asg] at h; cases h
    have : i ∈ vs := hs i (by simp [Tgt.slots])
    exact List.getElem?_set_ne (fun (q : i = j) => hj (by rw [← q]; exact this))
  | .tp ts, d, eta, eta1, h, hs, j, hj => by
    simp only [asg] at h
    cases hp : partsD d M with
    | none => rw [hp] at h; cases h
    | some ds => rw [hp] at h; exact asgs_wipe ts ds eta eta1 h (by simpa only [Tgt.slots] using hs) j hj
theorem asgs_wipe {M : Store} {vs : List Nat} : ∀ (ts : List Tgt) (ds : List D) (eta eta1 : Env), asgs M ts ds eta = some eta1 → (∀ i ∈ slotsL ts, i ∈ vs) → ∀ j, j ∉ vs → eta1[j]? = eta[j]?
  | [], [], eta, eta1, h, hs, j, hj => by simp only [asgs] at h; cases h; rfl
  | [], d :: ds, eta, eta1, h, hs, j, hj => by simp only [asgs] at h; cases h
  | t :: ts, [], eta, eta1, h, hs, j, hj => by simp only [asgs] at h; cases h
  | t :: ts, d :: ds, eta, eta1, h, hs, j, hj => by
    simp only [asgs] at h
    cases hp : asg M t d eta with
    | none => rw [hp] at h; cases h
    | some eta2 =>
      rw [hp] at h
      rw [asgs_wipe ts ds eta2 eta1 h (fun i hi => hs i (by simp [slotsL, hi])) j hj, asg_wipe t d eta eta2 hp (fun i hi => hs i (by simp [slotsL, hi])) j hj]
end
section
variable {sc : SC} {Av Av' : NP} {M M1 M' S : Store} {eta eta' eta1 etS : Env} {e e1 e' eS : PEnv} {B B' : NP}
theorem st_yes : ST sc tYesE pYes := .mk fun Av M eta e R => ⟨_, _, rfl, Rs.refl R, rfl⟩
/-- a forbidden place is written -/
theorem Rel.poke (R : Rel sc Av M eta e) {n : Nat} {o : MO} (hn : Av n) (hs : ¬ isSrc sc n) (ho : o.low M.length = true) : Rel sc Av (M.set n o) eta e ∧ ∀ (j : Nat) (u : MO), ¬ Bd Av eta e j → M[j]? = some u → ¬ Bd Av eta e j ∧ (M.set n o)[j]? = some u := by
  have key : ∀ (j : Nat) (u : MO), ¬ Bd Av eta e j → M[j]? = some u → ¬ Bd Av eta e j ∧ (M.set n o)[j]? = some u := fun j u a b => ⟨a, by rw [List.getElem?_set_ne (fun (q : n = j) => a (.inl (by rw [← q]; exact hn)))]; exact b⟩
  refine ⟨⟨R.len, R.wf.set ho, fun s c hc => ?_, R.asrc, fun j z => by rw [List.length_set]; exact R.av j z, fun j v z => ?_, fun j m v z => ?_, R.dj⟩, key⟩
  · obtain ⟨ne, cs, l, mm, t, x1, x2, x3⟩ := R.src s c hc
    exact ⟨ne, cs, l, mm, t, by rw [List.getElem?_set_ne (fun q => hs ⟨s, c, hc, .inl q⟩)]; exact x1, by rw [List.getElem?_set_ne (fun q => hs ⟨s, c, hc, .inr q⟩)]; exact x2, x3⟩
  · obtain ⟨d, h1, h2⟩ := R.sh j v z
    exact ⟨d, h1, Is.mono key _ _ h2⟩
  · obtain ⟨k, u, h1, h2, h3, h4⟩ := R.ow j m v z
    exact ⟨k, u, h1, h2, by rw [List.getElem?_set_ne (fun (q : n = k) => h2 (by rw [← q]; exact hn))]; exact h3, Cel.mono key h4⟩
/-- the block's names are forgotten -/
theorem Rel.wipe (R : Rel sc Av M eta1 e) {vs : List Nat} (h : ∀ j, j ∉ vs → eta1[j]? = (wipeE eta vs)[j]?) (hl : eta1.length = eta.length) : Rel sc Av M (wipeE eta vs) (wipeP e vs) ∧ ∀ (P : Mode → Prop) n, FoM P (wipeE eta vs) (wipeP e vs) n → FoM P eta1 e n := by
  have hg : ∀ (j : Nat) (sl : PSlot), (wipeP e vs)[j]? = some sl → sl ≠ .un → j ∉ vs ∧ e[j]? = some sl := fun j sl z q => by
    rw [wipeP_get] at z
    by_cases hj : j ∈ vs
    · rw [if_pos hj] at z
      cases he : e[j]? with
      | none => rw [he] at z; cases z
      | some x => rw [he] at z; cases z; exact absurd rfl q
    · rw [if_neg hj] at z; exact ⟨hj, z⟩
  have hfo : ∀ (P : Mode → Prop) n, FoM P (wipeE eta vs) (wipeP e vs) n → FoM P eta1 e n := fun P n ⟨j, m, v, h0, h1, h2⟩ => by
    obtain ⟨hj, h1⟩ := hg j _ h1 (by simp)
    exact ⟨j, m, v, h0, h1, by rw [h j hj]; exact h2⟩
  have key : ∀ (n : Nat) (u : MO), ¬ Bd Av eta1 e n → M[n]? = some u → ¬ Bd Av (wipeE eta vs) (wipeP e vs) n ∧ M[n]? = some u := fun n u a b => ⟨fun z => a (z.elim .inl fun q => .inr (hfo _ _ q)), b⟩
  refine ⟨⟨by rw [wipeE_len, wipeP_len, ← hl]; exact R.len, R.wf, R.src, R.asrc, R.av, fun j v z => ?_, fun j m v z => ?_, fun j l m1 v1 m2 v2 k a b c d => ?_⟩, hfo⟩
  · obtain ⟨hj, z⟩ := hg j _ z (by simp)
    obtain ⟨d, h1, h2⟩ := R.sh j v z
    exact ⟨d, by rw [← h j hj]; exact h1, Is.mono key _ _ h2⟩
  · obtain ⟨hj, z⟩ := hg j _ z (by simp)
    obtain ⟨k, u, h1, h2, h3, h4⟩ := R.ow j m v z
    exact ⟨k, u, by rw [← h j hj]; exact h1, h2, h3, Cel.mono key h4⟩
  · obtain ⟨hj, a⟩ := hg j _ a (by simp)
    obtain ⟨hl, b⟩ := hg l _ b (by simp)
    rw [← h j hj] at c
    rw [← h l hl] at d
    exact R.dj j l _ _ _ _ k a b c d
mutual
theorem pasg_len : ∀ (t : Tgt) (v : PV) (e e1 : PEnv), pasg t v e = some e1 → e1.length = e.length
  | .nm i, v, e, e1, h => by
    simp only [pasg] at h
    split at h
    · cases h; simp
    · cases h
  | .tp ts, v, e, e1, h => by
    cases v <;> simp only [pasg] at h <;> first | (cases h; done) | exact pasgs_len ts _ e e1 h
theorem pasgs_len : ∀ (ts : List Tgt) (vs : List PV) (e e1 : PEnv), pasgs ts vs e = some e1 → e1.length = e.length
  | [], [], e, e1, h => by simp only [pasgs] at h; cases h; rfl
  | [], v :: vs, e, e1, h => by simp only [pasgs] at h; cases h
  | t :: ts, [], e, e1, h => by simp only [pasgs] at h; cases h
  | t :: ts, v :: vs, e, e1, h => by
    simp only [pasgs] at h
    cases hp : pasg t v e with
    | none => rw [hp] at h; cases h
    | some e2 => rw [hp] at h; rw [pasgs_len ts vs e2 e1 h, pasg_len t v e e2 hp]
end
structure LcI (sc : SC) (Av : NP) (M1 : Store) (w : Env) (ew : PEnv) (n : Nat) (M : Store) (e : PEnv) (acc : List PV) : Prop where
  rs : Rs sc Av M1 w ew M w e
  rl : Rel sc (fun j => Av j ∨ j = n) M w e
  ac : ∃ accD, M[n]? = some (.lst accD) ∧ IsL sc M (Bd (fun j => Av j ∨ j = n) w e) acc accD
  le : acc.length ≤ cap
theorem lc_is {J : Iter} {t : Tgt} {vs : List Nat} {c : EvT} {pc : PStop} {f : EvE} {p : PExp} (hc : ST sc c pc) (hf : SE sc f p) (hts : ∀ i ∈ t.slots, i ∈ vs) {eta : Env} {M1 : Store} {ew : PEnv} (R1 : Rel sc Av M1 (wipeE eta vs) ew) (hio : ∀ j ∈ vs, ∀ m v, ew[j]? ≠ some (PSlot.ow m v)) (ds : List D)
    (hJ : ∀ (M2 : Store) (e2 : PEnv), Rs sc Av M1 (wipeE eta vs) ew M2 (wipeE eta vs) e2 → ∀ i, J i M2 = some ds[i]?) {X : XR} :
    ∀ (us : List PV) (m i : Nat) (M : Store) (e : PEnv) (acc : List PV), us.length < m → LcI sc Av M1 (wipeE eta vs) ew M1.length M e acc → IsL sc M (Bd (fun j => Av j ∨ j = M1.length) (wipeE eta vs) e) us (ds.drop i) →
      Ok (fun d M' r => d = .ref M1.length ∧ LcI sc Av M1 (wipeE eta vs) ew M1.length M' r.2 r.1) X (lcLoop J t vs c f eta M1.length m i M) (pLcL t vs pc p us e acc)
  | [], m, i, M, e, acc, hm, I, hl => by
    simp only [IsL] at hl
    have hj := hJ M e I.rs i
    have hd : ds[i]? = none := by
      have : (ds.drop i)[0]? = none := by rw [hl]; rfl
      rwa [List.getElem?_drop, Nat.add_zero] at this
    match m, hm with
    | m + 1, hm =>
      unfold lcLoop pLcL
      rw [hj, hd]
      exact ⟨_, _, rfl, rfl, I⟩
  | u :: us, m, i, M, e, acc, hm, I, hl => by
    simp only [IsL] at hl
    obtain ⟨d, es, hd, h1, h2⟩ := hl
    have hj := hJ M e I.rs i
    have hdi : ds[i]? = some d := by
      have : (ds.drop i)[0]? = some d := by rw [hd]; rfl
      rwa [List.getElem?_drop, Nat.add_zero] at this
    have hes : es = ds.drop (i + 1) := by
      have : (ds.drop i).drop 1 = es := by rw [hd]; rfl
      rw [← this, List.drop_drop]
    have hns : ¬ isSrc sc M1.length := fun z => by
      have := R1.av _ (R1.asrc _ z); omega
    match m, hm with
    | m + 1, hm =>
      unfold lcLoop pLcL
      rw [hj, hdi]
      simp only
      cases hp : pasg t u e with
      | none => trivial
      | some e1 =>
        obtain ⟨eta1, g1, g2, g3⟩ := asg_is t u d _ e e1 (Rs.refl I.rl) h1 hp
        rw [g1]
        simp only
        have g4 : ∀ j, j ∉ vs → eta1[j]? = (wipeE eta vs)[j]? := asg_wipe t d _ eta1 g1 hts
        -- from here on with the block's own names
        have back : ∀ (M3 : Store) (e3 : PEnv), Rs sc (fun j => Av j ∨ j = M1.length) M eta1 e1 M3 eta1 e3 → LcI sc Av M1 (wipeE eta vs) ew M1.length M3 (wipeP e3 vs) acc ∧ IsL sc M3 (Bd (fun j => Av j ∨ j = M1.length) (wipeE eta vs) (wipeP e3 vs)) us (ds.drop (i + 1)) ∧
            ∀ (v : PV) (y : D), Is sc M3 (Bd (fun j => Av j ∨ j = M1.length) eta1 e3) v y → Is sc M3 (Bd (fun j => Av j ∨ j = M1.length) (wipeE eta vs) (wipeP e3 vs)) v y := by
          intro M3 e3 b
          have hlen : eta1.length = eta.length := by
            have z1 := g2.rel.len
            have z2 := I.rl.len
            have z3 : e1.length = e.length := by
              clear g3 b
              have := pasg_len t u e e1 hp
              exact this
            rw [wipeE_len] at z2
            omega
          obtain ⟨Rw, fw⟩ := b.rel.wipe (eta := eta) g4 hlen
          have kw : ∀ (j : Nat) (o : MO), ¬ Bd (fun j => Av j ∨ j = M1.length) eta1 e3 j → M3[j]? = some o → ¬ Bd (fun j => Av j ∨ j = M1.length) (wipeE eta vs) (wipeP e3 vs) j ∧ M3[j]? = some o := fun j o a b => ⟨fun z => a (z.elim .inl fun q => .inr (fw _ _ q)), b⟩
          have tot := g2.trans b
          have k2 : ∀ (j : Nat) (o : MO), ¬ Bd (fun j => Av j ∨ j = M1.length) (wipeE eta vs) e j → M[j]? = some o → ¬ Bd (fun j => Av j ∨ j = M1.length) (wipeE eta vs) (wipeP e3 vs) j ∧ M3[j]? = some o := fun j o x y => by
            obtain ⟨z1, z2⟩ := tot.keep I.rl j o x y
            exact kw j o z1 z2
          obtain ⟨accD, q1, q2⟩ := I.ac
          have q3 : M3[M1.length]? = some (.lst accD) := by
            rw [tot.fr _ (List.getElem?_eq_some_iff.mp q1).1 (fun z => I.rl.fo_av z (.inr rfl)) hns]; exact q1
          refine ⟨⟨I.rs.trans ⟨Rw.less (fun j z => .inl z) I.rs.rel.asrc, fun P n z => ?_, tot.le, tot.fr, fun j m' v hm' z => ?_, fun j m' v hm' z => ?_⟩, Rw, ⟨accD, q3, IsL.mono k2 _ _ q2⟩, I.le⟩, ?_, fun v y h => Is.mono kw v y h⟩
          · exact tot.fo P n (fw P n z)
          · by_cases hjv : j ∈ vs
            · obtain ⟨m', v', hz⟩ : ∃ m' v', ew[j]? = some (PSlot.ow m' v') := by
                exfalso
                have h1 := I.rs.rel.ow j _ v z
                obtain ⟨n', o', w1, _⟩ := h1
                rw [wipeE_get, if_pos hjv] at w1
                cases hq : eta[j]? with
                | none => rw [hq] at w1; cases w1
                | some x => rw [hq] at w1; cases w1
              exact absurd hz (hio j hjv m' v')
            · obtain ⟨⟨v', w1⟩, w2⟩ := tot.io j m' v hm' z
              exact ⟨⟨v', by rw [wipeP_get, if_neg hjv]; exact w1⟩, rfl⟩
          · rw [wipeP_get] at z
            by_cases hjv : j ∈ vs
            · rw [if_pos hjv] at z
              cases hq : e3[j]? with
              | none => rw [hq] at z; cases z
              | some x => rw [hq] at z; cases z
            · rw [if_neg hjv] at z
              exact tot.oi j m' v hm' z
          · rw [← hes]; exact IsL.mono k2 _ _ h2
        refine Ok.bind ((hc _ M eta1 e1 g2.rel).noX (X' := fun _ _ _ _ _ _ => False)) (fun b M2 r ⟨b1, hb⟩ => ?_) (fun _ _ _ _ _ _ z => z.elim)
        obtain ⟨rb, e2⟩ := r
        simp only at b1 hb ⊢
        subst hb
        cases b with
        | false =>
          simp only [Bool.false_eq_true, if_false]
          obtain ⟨z1, z2, _⟩ := back M2 e2 b1
          exact lc_is hc hf hts R1 hio ds hJ us m (i + 1) M2 (wipeP e2 vs) acc (by simp at hm; omega) z1 z2
        | true =>
          simp only [if_true]
          refine Ok.bind ((hf _ M2 eta1 e2 b1.rel).noX (X' := fun _ _ _ _ _ _ => False)) (fun y M3 s ⟨b2, hv⟩ => ?_) (fun _ _ _ _ _ _ z => z.elim)
          obtain ⟨w, v, e3⟩ := s
          simp only at b2 hv ⊢
          have hi := hv.is
          obtain ⟨z1, z2, z3⟩ := back M3 e3 (b1.trans b2)
          have hi2 := z3 v y hi
          by_cases hcap : acc.length < cap
          · rw [if_pos hcap]
            obtain ⟨accD, q1, q2⟩ := z1.ac
            have hlow : (MO.lst (accD ++ [y])).low M3.length = true := by
              show lowL M3.length (accD ++ [y]) = true
              exact IsL.low z1.rl.ins (acc ++ [v]) _ (q2.append (IsL.cons hi2 IsL.nil))
            have hput : putAt M1.length y M3 = some (M3.set M1.length (.lst (accD ++ [y]))) := by
              simp only [putAt, q1]; rw [if_pos (by rw [q2.length]; exact hcap)]
            rw [hput]
            simp only
            obtain ⟨P1, k1⟩ := z1.rl.poke (n := M1.length) (.inr rfl) hns hlow
            have hl3 := (List.getElem?_eq_some_iff.mp q1).1
            refine lc_is hc hf hts R1 hio ds hJ us m (i + 1) (M3.set M1.length (.lst (accD ++ [y]))) (wipeP e3 vs) (acc ++ [v]) (by simp at hm; omega) ⟨?_, P1, ⟨accD ++ [y], by rw [List.getElem?_set_self hl3], IsL.mono k1 _ _ (q2.append (IsL.cons hi2 IsL.nil))⟩, by simp; omega⟩ (IsL.mono k1 _ _ z2)
            have a := z1.rs
            exact ⟨P1.less (fun j z => .inl z) a.rel.asrc, a.fo, by rw [List.length_set]; exact a.le, fun j x1 x2 x3 => by rw [List.getElem?_set_ne (by omega)]; exact a.fr j x1 x2 x3, a.io, a.oi⟩
          · rw [if_neg hcap]; trivial
end
end Ev
namespace Ev
open PySem L2
section
variable {sc : SC} {Av Av' : NP} {M M1 M' S : Store} {eta eta' eta1 etS : Env} {e e1 e' eS : PEnv} {B B' : NP}
/-- what is walked, told for a comprehension: it may lie in a slot that is held -/
def RI2 (sc : SC) (Av : NP) (M : Store) (eta : Env) (e : PEnv) : Iter → Store → List PV × PEnv → Prop := fun J M' r => Rs sc Av M eta e M' eta r.2 ∧ r.1.length ≤ cap ∧ ∃ ds, IsL sc M' (Bd Av eta r.2) r.1 ds ∧
  ∀ (vs : List Nat), (∀ j ∈ vs, slPlain r.2[j]? = true) → ∀ (M2 : Store) (e2 : PEnv), Rs sc Av M' (wipeE eta vs) (wipeP r.2 vs) M2 (wipeE eta vs) e2 → ∀ i, J i M2 = some ds[i]?
structure SI2 (sc : SC) (f : EvIt) (p : PIt) : Prop where
  go : ∀ (Av : NP) (M : Store) (eta : Env) (e : PEnv), Rel sc Av M eta e → Ok (RI2 sc Av M eta e) (XE sc Av M eta e) (f eta M) (p e)
theorem SI.two {it : EvIt} {pit : PIt} (h : SI sc it pit) : SI2 sc it pit := ⟨fun Av M eta e R => (h Av M eta e R).imp (fun J M1 r ⟨a, hcap, ds, h1, h2⟩ => by
    refine ⟨a, hcap, ds, h1, fun vs hpl M2 e2 b => h2 M2 fun n o x y => ?_⟩
    have R1 := a.rel
    obtain ⟨Rw, fw⟩ := R1.wipe (eta := eta) (vs := vs) (fun j hj => by rw [wipeE_get, if_neg hj]) rfl
    have hbw : ∀ n, Bd Av (wipeE eta vs) (wipeP r.2 vs) n → Bd Av eta r.2 n := fun n z => z.elim .inl fun q => .inr (fw _ _ q)
    exact (b.keep Rw n o (fun z => x (hbw n z)) y).2) fun _ _ _ _ _ _ z => z⟩
theorem se_lc2 {it : EvIt} {pit : PIt} {t : Tgt} {vs : List Nat} {c : EvT} {pc : PStop} {f : EvE} {p : PExp} (hi : SI2 sc it pit) (hc : ST sc c pc) (hf : SE sc f p) : SE sc (eLc it t vs c f) (pLc pit t vs pc p) := .mk fun Av M eta e R => by
  unfold eLc pLc
  refine Ok.bind (hi.go Av M eta e R) (fun J M1 r ⟨a, hcap, ds, h1, h2⟩ => ?_) fun _ _ _ _ _ _ z => z
  obtain ⟨us, e1⟩ := r
  simp only at a hcap h1 h2 ⊢
  by_cases hok : lcOk t vs e1 = true
  · rw [if_pos hok]
    simp only [lcOk, Bool.and_eq_true, List.all_eq_true, decide_eq_true_eq] at hok
    obtain ⟨hts, hpl⟩ := hok
    have R1 := a.rel
    obtain ⟨Rw, fw⟩ := R1.wipe (eta := eta) (vs := vs) (fun j hj => by rw [wipeE_get, if_neg hj]) rfl
    have hbw : ∀ n, Bd Av (wipeE eta vs) (wipeP e1 vs) n → Bd Av eta e1 n := fun n z => z.elim .inl fun q => .inr (fw _ _ q)
    have hio : ∀ j ∈ vs, ∀ m v, (wipeP e1 vs)[j]? ≠ some (PSlot.ow m v) := fun j hj m v z => by
      rw [wipeP_get, if_pos hj] at z
      cases hq : e1[j]? with
      | none => rw [hq] at z; cases z
      | some x => rw [hq] at z; cases z
    have hlow : (MO.lst []).low (M1.length + 1) = true := rfl
    have hnav : ¬ Av M1.length := fun z => by have := R1.av _ z; omega
    have I0 : LcI sc Av M1 (wipeE eta vs) (wipeP e1 vs) M1.length (M1 ++ [.lst []]) (wipeP e1 vs) [] :=
      ⟨(Rs.refl Rw).grow hlow, Rw.grow hlow, ⟨[], by simp, IsL.nil⟩, by simp⟩
    have k0 : ∀ (j : Nat) (o : MO), ¬ Bd Av eta e1 j → M1[j]? = some o → ¬ Bd (fun j => Av j ∨ j = M1.length) (wipeE eta vs) (wipeP e1 vs) j ∧ (M1 ++ [MO.lst []])[j]? = some o := fun j o x y => by
      have hl := (List.getElem?_eq_some_iff.mp y).1
      refine ⟨fun z => ?_, app_old y _⟩
      rcases z with (z | z) | z
      · exact x (.inl z)
      · omega
      · exact x (.inr (fw _ _ z))
    have hfuel : cap < FUEL := by unfold FUEL cap; decide
    have main := lc_is (J := J) (t := t) (vs := vs) hc hf hts Rw hio ds (fun M2 e2 k => h2 vs hpl M2 e2 k) (X := XE sc Av M eta e) us FUEL 0 (M1 ++ [.lst []]) (wipeP e1 vs) [] (by omega) I0 (IsL.mono k0 _ _ h1)
    have wrap : ∀ (o : Out D) (c : C (List PV × PEnv)), Ok (fun d M' r => d = .ref M1.length ∧ LcI sc Av M1 (wipeE eta vs) (wipeP e1 vs) M1.length M' r.2 r.1) (XE sc Av M eta e) o c → Ok (RE sc Av M eta e) (XE sc Av M eta e) (o.bind fun d M' => .ok d M') (c.bind fun s => C.ret (true, PV.lst s.1, backP e1 s.2 vs)) := fun o c h => by
      refine Ok.bind h (fun d M' r ⟨hd, I⟩ => ?_) fun _ _ _ _ _ _ z => z
      obtain ⟨acc, ef⟩ := r
      simp only at I ⊢
      subst hd
      have hlen : e1.length = ef.length := by
        have z1 := R1.len
        have z2 := I.rl.len
        rw [wipeE_len] at z2
        omega
      have hb := fun j => backP_get e1 ef hlen j vs
      have hfo : ∀ (P : Mode → Prop) n, FoM P eta (backP e1 ef vs) n → FoM P (wipeE eta vs) ef n ∧ FoM P (wipeE eta vs) ef n := fun P n ⟨j, m, v, x0, x1, x2⟩ => by
        rw [hb] at x1
        by_cases hj : j ∈ vs
        · rw [if_pos hj] at x1
          have := hpl j hj
          rw [x1] at this; cases this
        · rw [if_neg hj] at x1
          have : FoM P (wipeE eta vs) ef n := ⟨j, m, v, x0, x1, by rw [wipeE_get, if_neg hj]; exact x2⟩
          exact ⟨this, this⟩
      have hbd : ∀ j, Bd (fun j => Av j ∨ j = M1.length) eta (backP e1 ef vs) j → Bd (fun j => Av j ∨ j = M1.length) (wipeE eta vs) ef j := fun j z => z.elim .inl fun q => .inr (hfo _ _ q).1
      have key1 : ∀ (j : Nat) (o : MO), ¬ Bd Av eta e1 j → M1[j]? = some o → ¬ Bd (fun j => Av j ∨ j = M1.length) eta (backP e1 ef vs) j ∧ M'[j]? = some o := fun j o x y => by
        have hl := (List.getElem?_eq_some_iff.mp y).1
        obtain ⟨q1, q2⟩ := I.rs.keep Rw j o (fun z => x (hbw j z)) y
        refine ⟨fun z => ?_, q2⟩
        rcases hbd j z with (z | z) | z
        · exact q1 (.inl z)
        · omega
        · exact q1 (.inr z)
      have key2 : ∀ (j : Nat) (o : MO), ¬ Bd (fun j => Av j ∨ j = M1.length) (wipeE eta vs) ef j → M'[j]? = some o → ¬ Bd (fun j => Av j ∨ j = M1.length) eta (backP e1 ef vs) j ∧ M'[j]? = some o := fun j o x y => ⟨fun z => x (hbd j z), y⟩
      obtain ⟨accD, q1, q2⟩ := I.ac
      have RR : Rel sc (fun j => Av j ∨ j = M1.length) M' eta (backP e1 ef vs) := by
        refine ⟨by rw [backP_len, ← hlen]; exact R1.len, I.rl.wf, I.rl.src, I.rl.asrc, I.rl.av, fun j v z => ?_, fun j m v z => ?_, fun j l m1 v1 m2 v2 k x1 x2 x3 x4 => ?_⟩
        · rw [hb] at z
          by_cases hj : j ∈ vs
          · rw [if_pos hj] at z
            obtain ⟨d, y1, y2⟩ := R1.sh j v z
            exact ⟨d, y1, Is.mono key1 _ _ y2⟩
          · rw [if_neg hj] at z
            obtain ⟨d, y1, y2⟩ := I.rl.sh j v z
            rw [wipeE_get, if_neg hj] at y1
            exact ⟨d, y1, Is.mono key2 _ _ y2⟩
        · rw [hb] at z
          by_cases hj : j ∈ vs
          · rw [if_pos hj] at z
            have := hpl j hj
            rw [z] at this; cases this
          · rw [if_neg hj] at z
            obtain ⟨k, o, y1, y2, y3, y4⟩ := I.rl.ow j m v z
            rw [wipeE_get, if_neg hj] at y1
            exact ⟨k, o, y1, y2, y3, Cel.mono key2 y4⟩
        · rw [hb] at x1 x2
          by_cases hj : j ∈ vs
          · rw [if_pos hj] at x1
            have := hpl j hj
            rw [x1] at this; cases this
          · by_cases hl : l ∈ vs
            · rw [if_pos hl] at x2
              have := hpl l hl
              rw [x2] at this; cases this
            · rw [if_neg hj] at x1
              rw [if_neg hl] at x2
              exact I.rl.dj j l m1 v1 m2 v2 k x1 x2 (by rw [wipeE_get, if_neg hj]; exact x3) (by rw [wipeE_get, if_neg hl]; exact x4)
      have tot : Rs sc Av M1 eta e1 M' eta (backP e1 ef vs) := by
        refine ⟨RR.less (fun n z => .inl z) R1.asrc, fun P n z => ?_, I.rs.le, fun n x1 x2 x3 => I.rs.fr n x1 (fun z => x2 (fw _ _ z)) x3, fun j m v hm z => ⟨?_, rfl⟩, fun j m v hm z => ?_⟩
        · rcases I.rs.fo P n (hfo P n z).1 with y | y
          · exact .inl (fw _ _ y)
          · exact .inr y
        · rw [hb]
          by_cases hj : j ∈ vs
          · have := hpl j hj
            rw [z] at this; cases this
          · rw [if_neg hj]
            exact (I.rs.io j m v hm (by rw [wipeP_get, if_neg hj]; exact z)).1
        · rw [hb] at z
          by_cases hj : j ∈ vs
          · rw [if_pos hj] at z
            exact ⟨v, z⟩
          · rw [if_neg hj] at z
            obtain ⟨v', y⟩ := I.rs.oi j m v hm z
            rw [wipeP_get, if_neg hj] at y
            exact ⟨v', y⟩
      refine ⟨_, M', rfl, a.trans tot, ?_⟩
      unfold VR
      simp only [if_true]
      exact ⟨M1.length, _, rfl, a.le, hnav, q1, RR, by simp only [Cel]; exact ⟨accD, rfl, IsL.mono key2 _ _ q2, I.le⟩⟩
    have e2 : ∀ o : Out D, (o.bind fun d M' => .ok d M') = o := fun o => by cases o <;> rfl
    have := wrap _ _ main
    rw [e2] at this
    exact this
  · rw [if_neg hok]; trivial
theorem se_lc {it : EvIt} {pit : PIt} {t : Tgt} {vs : List Nat} {c : EvT} {pc : PStop} {f : EvE} {p : PExp} (hi : SI sc it pit) (hc : ST sc c pc) (hf : SE sc f p) : SE sc (eLc it t vs c f) (pLc pit t vs pc p) := se_lc2 hi.two hc hf
def owW : Option PSlot → Option (Mode × PV)
  | some (.ow .own v) => some (.own, v)
  | some (.ow .io v) => some (.io, v)
  | _ => none
theorem owW_ok {o : Option PSlot} {m : Mode} {v : PV} (h : owW o = some (m, v)) : o = some (.ow m v) ∧ m ≠ .lk := by
  unfold owW at h
  split at h
  · cases h; exact ⟨rfl, by decide⟩
  · cases h; exact ⟨rfl, by decide⟩
  · cases h
end
end Ev
namespace Ev
open PySem L2
abbrev PRes := Bool × PV × List PSlot
abbrev PTab := Nat → List PSlot → C PRes
def finSl : PSlot → PSlot
  | .ow .io v => .ow .io v
  | .ow .lk v => .ow .lk v
  | _ => .un
def finSlots (np : Nat) (e : PEnv) : List PSlot := (List.range np).map fun (j : Nat) => finSl (e.getD j .un)
def finP (np : Nat) : C PR → C PRes
  | .ret (.nx e) => .ret (false, .non, finSlots np e)
  | .ret (.rt w v e) => .ret (w, v, finSlots np e)
  | .ret _ => .bad
  | .exc x ns vs e => .exc x ns vs (finSlots np e)
  | .draw k f => .draw k fun i => finP np (f i)
  | .bad => .bad
inductive PEnt where
  | fn (nn np : Nat) (body : PTab → PStm)
  | pick
def pPick : List PSlot → C PRes
  | [.sh .src, .sh (.int many)] => if 1 ≤ many.toNat ∧ many.toNat ≤ 1152921504606846975 then .draw many.toNat fun j => .ret (false, .int j, [.un, .un]) else .bad
  | _ => .bad
def ptab (P : List PEnt) : Nat → PTab
  | 0 => fun _ _ => .bad
  | k + 1 => fun i sl => match P[i]? with
    | some (.fn nn np b) => if sl.length = np then finP np (b (ptab P k) (sl ++ List.replicate (nn - np) .un)) else .bad
    | some .pick => pPick sl
    | none => .bad
def NoOwn (sl : List PSlot) : Prop := ∀ (j : Nat) (v : PV), sl[j]? ≠ some (.ow .own v)
def RC (sc : SC) (Av : NP) (M : Store) (P : Env) (sl : List PSlot) : D → Store → PRes → Prop := fun d M' r => Rs sc Av M P sl M' P r.2.2 ∧ VR sc Av M.length M' P r.2.2 r.1 r.2.1 d
def TSnd (sc : SC) (T : Tab) (U : PTab) : Prop := ∀ (i : Nat) (Av : NP) (M : Store) (ds : List D) (sl : List PSlot), Rel sc Av M (ds.map some) sl → NoOwn sl → Ok (RC sc Av M (ds.map some) sl) (XE sc Av M (ds.map some) sl) (T i ds M) (U i sl)
section
variable {sc : SC} {Av Av' : NP} {M M1 M' S : Store} {eta eta' eta1 etS : Env} {e e1 e' eS : PEnv} {B B' : NP} {k : Nat}
theorem finSlots_get (np : Nat) (e : PEnv) (j : Nat) {m : Mode} {v : PV} (h : (finSlots np e)[j]? = some (.ow m v)) : j < np ∧ m ≠ .own ∧ e[j]? = some (.ow m v) := by
  unfold finSlots at h
  rw [List.getElem?_map] at h
  by_cases hj : j < np
  · rw [List.getElem?_range hj] at h
    simp only [Option.map_some, List.getD_eq_getElem?_getD] at h
    cases q : e[j]? with
    | none => rw [q] at h; cases h
    | some sl =>
      rw [q] at h
      simp only [Option.getD_some] at h
      cases sl with
      | un => cases h
      | sh _ => cases h
      | ow m' v' =>
        cases m' with
        | own => cases h
        | io => cases h; exact ⟨hj, by decide, rfl⟩
        | lk => cases h; exact ⟨hj, by decide, rfl⟩
  · rw [List.getElem?_eq_none (by simp; omega)] at h
    cases h
theorem finSlots_sh (np : Nat) (e : PEnv) (j : Nat) {v : PV} (h : (finSlots np e)[j]? = some (.sh v)) : False := by
  unfold finSlots at h
  rw [List.getElem?_map] at h
  by_cases hj : j < np
  · rw [List.getElem?_range hj] at h
    simp only [Option.map_some, List.getD_eq_getElem?_getD] at h
    cases q : e[j]? with
    | none => rw [q] at h; cases h
    | some sl =>
      rw [q] at h
      simp only [Option.getD_some] at h
      cases sl with
      | un => cases h
      | sh _ => cases h
      | ow m' v' => cases m' <;> cases h
  · rw [List.getElem?_eq_none (by simp; omega)] at h
    cases h
theorem finSlots_io (np : Nat) (e : PEnv) (j : Nat) {m : Mode} {v : PV} (hj : j < np) (hm : m ≠ .own) (h : e[j]? = some (.ow m v)) : (finSlots np e)[j]? = some (.ow m v) := by
  unfold finSlots
  rw [List.getElem?_map, List.getElem?_range hj]
  simp only [Option.map_some, List.getD_eq_getElem?_getD, h, Option.getD_some]
  cases m with
  | own => exact absurd rfl hm
  | io => rfl
  | lk => rfl
/-- what is left of a def's slots -/
theorem Rel.fin {P : Env} {np : Nat} (R : Rel sc Av M' eta' e') (hP : P.length = np) (h : ∀ (j : Nat) (m : Mode) (v : PV), m ≠ .own → e'[j]? = some (.ow m v) → j < np → P[j]? = eta'[j]?) :
    Rel sc Av M' P (finSlots np e') ∧ ∀ (Q : Mode → Prop) n, FoM Q P (finSlots np e') n → FoM Q eta' e' n := by
  have hfo : ∀ (Q : Mode → Prop) n, FoM Q P (finSlots np e') n → FoM Q eta' e' n := fun Q n ⟨j, m, v, h0, h1, h2⟩ => by
    obtain ⟨x1, x2, x3⟩ := finSlots_get np e' j h1
    exact ⟨j, m, v, h0, x3, by rw [← h j m v x2 x3 x1]; exact h2⟩
  have key : ∀ (n : Nat) (u : MO), ¬ Bd Av eta' e' n → M'[n]? = some u → ¬ Bd Av P (finSlots np e') n ∧ M'[n]? = some u := fun n u a b => ⟨fun z => a (z.elim .inl fun q => .inr (hfo _ _ q)), b⟩
  refine ⟨⟨by rw [hP]; simp [finSlots], R.wf, R.src, R.asrc, R.av, fun j v z => (finSlots_sh np e' j z).elim, fun j m v z => ?_, fun j l m1 v1 m2 v2 k a b c d => ?_⟩, hfo⟩
  · obtain ⟨x1, x2, x3⟩ := finSlots_get np e' j z
    obtain ⟨n, o, h1, h2, h3, h4⟩ := R.ow j m v x3
    exact ⟨n, o, by rw [h j m v x2 x3 x1]; exact h1, h2, h3, Cel.mono key h4⟩
  · obtain ⟨x1, x2, x3⟩ := finSlots_get np e' j a
    obtain ⟨y1, y2, y3⟩ := finSlots_get np e' l b
    exact R.dj j l _ _ _ _ k x3 y3 (by rw [← h j _ _ x2 x3 x1]; exact c) (by rw [← h l _ _ y2 y3 y1]; exact d)
theorem ext_get (sl : List PSlot) (k j : Nat) {x : PSlot} (h : (sl ++ List.replicate k .un)[j]? = some x) (hx : x ≠ .un) : sl[j]? = some x ∧ j < sl.length := by
  by_cases hj : j < sl.length
  · rw [List.getElem?_append_left hj] at h; exact ⟨h, hj⟩
  · rw [List.getElem?_append_right (by omega)] at h
    have := List.mem_of_getElem? h
    rw [List.mem_replicate] at this
    exact absurd this.2 hx
theorem Rel.ext {P : Env} {sl : List PSlot} (R : Rel sc Av M P sl) (k : Nat) : Rel sc Av M (P ++ List.replicate k none) (sl ++ List.replicate k .un) ∧ ∀ (Q : Mode → Prop) n, FoM Q (P ++ List.replicate k none) (sl ++ List.replicate k .un) n ↔ FoM Q P sl n := by
  have hl := R.len
  have hfo : ∀ (Q : Mode → Prop) n, FoM Q (P ++ List.replicate k none) (sl ++ List.replicate k .un) n ↔ FoM Q P sl n := fun Q n => by
    constructor
    · rintro ⟨j, m, v, h0, h1, h2⟩
      obtain ⟨x1, x2⟩ := ext_get sl k j h1 (by simp)
      rw [List.getElem?_append_left (by omega)] at h2
      exact ⟨j, m, v, h0, x1, h2⟩
    · rintro ⟨j, m, v, h0, h1, h2⟩
      have hj := (List.getElem?_eq_some_iff.mp h1).1
      exact ⟨j, m, v, h0, by rw [List.getElem?_append_left hj]; exact h1, by rw [List.getElem?_append_left (by omega)]; exact h2⟩
  have key : ∀ (n : Nat) (u : MO), ¬ Bd Av P sl n → M[n]? = some u → ¬ Bd Av (P ++ List.replicate k none) (sl ++ List.replicate k .un) n ∧ M[n]? = some u := fun n u a b => ⟨fun z => a (z.elim .inl fun q => .inr ((hfo _ _).mp q)), b⟩
  refine ⟨⟨by simp [hl], R.wf, R.src, R.asrc, R.av, fun j v z => ?_, fun j m v z => ?_, fun j l m1 v1 m2 v2 k' a b c d => ?_⟩, hfo⟩
  · obtain ⟨x1, x2⟩ := ext_get sl k j z (by simp)
    obtain ⟨d, h1, h2⟩ := R.sh j v x1
    exact ⟨d, by rw [List.getElem?_append_left (by omega)]; exact h1, Is.mono key _ _ h2⟩
  · obtain ⟨x1, x2⟩ := ext_get sl k j z (by simp)
    obtain ⟨n, o, h1, h2, h3, h4⟩ := R.ow j m v x1
    exact ⟨n, o, by rw [List.getElem?_append_left (by omega)]; exact h1, h2, h3, Cel.mono key h4⟩
  · obtain ⟨x1, x2⟩ := ext_get sl k j a (by simp)
    obtain ⟨y1, y2⟩ := ext_get sl k l b (by simp)
    rw [List.getElem?_append_left (by omega)] at c d
    exact R.dj j l _ _ _ _ k' x1 y1 c d
/-- from a body's run to its def's -/
theorem Rs.fin {P : Env} {sl : List PSlot} (R : Rel sc Av M P sl) (a : Rs sc Av M (P ++ List.replicate k none) (sl ++ List.replicate k .un) M' eta' e') :
    Rs sc Av M P sl M' P (finSlots sl.length e') ∧ (∀ n, Bd Av P (finSlots sl.length e') n → Bd Av eta' e' n) ∧ ∀ (j : Nat) (m : Mode) (v : PV), m ≠ .own → e'[j]? = some (.ow m v) → j < sl.length → P[j]? = eta'[j]? := by
  have hl := R.len
  obtain ⟨RX, fx⟩ := R.ext k
  have hP : ∀ (j : Nat) (m : Mode) (v : PV), m ≠ .own → e'[j]? = some (.ow m v) → j < sl.length → P[j]? = eta'[j]? := fun j m v hm h hj => by
    obtain ⟨v', h1⟩ := a.oi j m v hm h
    rw [(a.io j m v' hm h1).2, List.getElem?_append_left (by omega)]
  obtain ⟨RF, ff⟩ := a.rel.fin (np := sl.length) hl hP
  refine ⟨⟨RF, fun Q n h => ?_, a.le, fun n h1 h2 h3 => a.fr n h1 (fun z => h2 ((fx _ n).mp z)) h3, fun j m v hm h => ⟨?_, rfl⟩, fun j m v hm h => ?_⟩, fun n z => z.elim .inl fun q => .inr (ff _ _ q), hP⟩
  · rcases a.fo Q n (ff Q n h) with z | z
    · exact .inl ((fx Q n).mp z)
    · exact .inr z
  · have hj := (List.getElem?_eq_some_iff.mp h).1
    obtain ⟨⟨v', h1⟩, _⟩ := a.io j m v hm (by rw [List.getElem?_append_left hj]; exact h)
    exact ⟨v', finSlots_io _ _ j hj hm h1⟩
  · obtain ⟨x1, x2, x3⟩ := finSlots_get _ _ j h
    obtain ⟨v', h1⟩ := a.oi j m v hm x3
    rw [List.getElem?_append_left x1] at h1
    exact ⟨v', h1⟩
theorem keptOk_get : ∀ {M M' : Store}, keptOk k M M' = true → ∀ (j : Nat) (m o : MO), M[j]? = some m → M'[j]? = some o → o = m ∨ o.low k = true
  | [], _, _, j, m, o, h, _ => by simp at h
  | m0 :: r, [], h, j, m, o, h1, h2 => by simp at h2
  | m0 :: r, o0 :: s, h, 0, m, o, h1, h2 => by
    simp only [keptOk, Bool.and_eq_true, Bool.or_eq_true] at h
    simp at h1 h2
    subst h1; subst h2
    exact h.1.imp MO.same_eq id
  | m0 :: r, o0 :: s, h, j + 1, m, o, h1, h2 => by
    simp only [keptOk, Bool.and_eq_true] at h
    exact keptOk_get h.2 j m o (by simpa using h1) (by simpa using h2)
mutual
theorem Is.take (hl : ∀ (j : Nat) (o : MO), j < k → M'[j]? = some o → o.low k = true) : ∀ (v : PV) (d : D), Is sc M' B v d → d.low k = true → Is sc (M'.take k) B v d
  | .non, d, h, _ => by simpa only [Is] using h
  | .bl _, d, h, _ => by simpa only [Is] using h
  | .int _, d, h, _ => by simpa only [Is] using h
  | .str _, d, h, _ => by simpa only [Is] using h
  | .cst _, d, h, _ => by simpa only [Is] using h
  | .src, d, h, _ => by simpa only [Is] using h
  | .tup vs, d, h, g => by
    simp only [Is] at h ⊢
    obtain ⟨ds, rfl, h2, h3⟩ := h
    exact ⟨ds, rfl, IsL.takeS hl vs ds h2 (by simpa only [D.low] using g), h3⟩
  | .lst vs, d, h, g => by
    simp only [Is] at h ⊢
    obtain ⟨n, ds, rfl, h2, h3, h4, h5⟩ := h
    simp only [D.low, decide_eq_true_eq] at g
    exact ⟨n, ds, rfl, h2, by rw [List.getElem?_take_of_lt g]; exact h3, IsL.takeS hl vs ds h4 (hl n _ g h3), h5⟩
  | .dic ks vs, d, h, g => by
    simp only [Is] at h ⊢
    obtain ⟨n, ds, rfl, h2, h3, h4, h5⟩ := h
    simp only [D.low, decide_eq_true_eq] at g
    exact ⟨n, ds, rfl, h2, by rw [List.getElem?_take_of_lt g]; exact h3, h4, IsL.takeS hl vs _ h5 (hl n _ g h3)⟩
  | .dit ks vs, d, h, g => by
    simp only [Is] at h ⊢
    obtain ⟨n, ds, rfl, h2, h3, h4, h5⟩ := h
    simp only [D.low, decide_eq_true_eq] at g
    exact ⟨n, ds, rfl, h2, by rw [List.getElem?_take_of_lt g]; exact h3, h4, IsL.takeS hl vs _ h5 (hl n _ g h3)⟩
  | .ins c ns vs, d, h, g => by
    simp only [Is] at h ⊢
    obtain ⟨n, ds, rfl, h2, h3, h4, h5⟩ := h
    simp only [D.low, decide_eq_true_eq] at g
    exact ⟨n, ds, rfl, h2, by rw [List.getElem?_take_of_lt g]; exact h3, h4, IsL.takeS hl vs _ h5 (hl n _ g h3)⟩
theorem IsL.takeS (hl : ∀ (j : Nat) (o : MO), j < k → M'[j]? = some o → o.low k = true) : ∀ (vs : List PV) (ds : List D), IsL sc M' B vs ds → lowL k ds = true → IsL sc (M'.take k) B vs ds
  | [], ds, h, _ => by simpa only [IsL] using h
  | v :: vs, ds, h, g => by
    simp only [IsL] at h ⊢
    obtain ⟨d, es, rfl, h2, h3⟩ := h
    simp only [lowL, Bool.and_eq_true] at g
    exact ⟨d, es, rfl, Is.take hl v d h2 g.1, IsL.takeS hl vs es h3 g.2⟩
end
theorem Cel.takeS (hl : ∀ (j : Nat) (o : MO), j < k → M'[j]? = some o → o.low k = true) {v : PV} {o : MO} (h : Cel sc M' B v o) (g : o.low k = true) : Cel sc (M'.take k) B v o := by
  cases v <;> simp only [Cel] at h ⊢
  · obtain ⟨ds, rfl, h1, h2⟩ := h; exact ⟨ds, rfl, IsL.takeS hl _ _ h1 g, h2⟩
  · obtain ⟨ds, rfl, h1, h2⟩ := h; exact ⟨ds, rfl, h1, IsL.takeS hl _ _ h2 g⟩
  · obtain ⟨ds, rfl, h1, h2⟩ := h; exact ⟨ds, rfl, h1, IsL.takeS hl _ _ h2 g⟩
  · obtain ⟨ds, rfl, h1, h2⟩ := h; exact ⟨ds, rfl, h1, IsL.takeS hl _ _ h2 g⟩
theorem gc_is {P : Env} {sl fin : List PSlot} {w : Bool} {v : PV} {d : D} (R : Rel sc Av M P sl) (a : Rs sc Av M P sl M' P fin) (hsh : ∀ (j : Nat) (u : PV), fin[j]? ≠ some (.sh u)) (hno : NoOwn fin) (hv : VR sc Av M.length M' P fin w v d) :
    ∃ d1 M1, gc M d M' = .ok d1 M1 ∧ Rs sc Av M P sl M1 P fin ∧ VR sc Av M.length M1 P fin w v d1 := by
  have triv : gc M d M' = .ok d M' → ∃ d1 M1, gc M d M' = .ok d1 M1 ∧ Rs sc Av M P sl M1 P fin ∧ VR sc Av M.length M1 P fin w v d1 := fun h => ⟨d, M', h, a, hv⟩
  by_cases hk : keptOk M.length M M' = true
  · have hle := a.le
    have hl : ∀ (j : Nat) (o : MO), j < M.length → M'[j]? = some o → o.low M.length = true := fun j o hj h => by
      rcases keptOk_get hk j M[j] o (List.getElem?_eq_getElem hj) h with z | z
      · rw [z]; exact R.wf j _ (List.getElem?_eq_getElem hj)
      · exact z
    have htl : (M'.take M.length).length = M.length := by rw [List.length_take]; omega
    have hlt : ∀ j, j < M.length → (M'.take M.length)[j]? = M'[j]? := fun j hj => List.getElem?_take_of_lt hj
    have hflt : ∀ (Q : Mode → Prop) n, FoM Q P fin n → n < M.length := fun Q n ⟨j, m, u, h0, h1, h2⟩ => by
      have hm : m ≠ .own := fun z => by subst z; exact hno j u h1
      obtain ⟨u', h3⟩ := a.oi j m u hm h1
      exact R.fo_lt ⟨j, m, u', h0, h3, h2⟩
    have RT : Rel sc Av (M'.take M.length) P fin := by
      refine ⟨a.rel.len, fun n o h => ?_, fun s c hs => ?_, R.asrc, fun n h => by rw [htl]; exact R.av n h, fun j u z => absurd z (hsh j u), fun j m u z => ?_, a.rel.dj⟩
      · have hn : n < M.length := by have := (List.getElem?_eq_some_iff.mp h).1; omega
        rw [hlt n hn] at h
        rw [htl]; exact hl n o hn h
      · obtain ⟨ne, cs, l, mm, t, x1, x2, x3⟩ := a.rel.src s c hs
        have hsl := (R.src s c hs).lt
        exact ⟨ne, cs, l, mm, t, by rw [hlt s hsl.1]; exact x1, by rw [hlt c hsl.2]; exact x2, x3⟩
      · obtain ⟨n, o, h1, h2, h3, h4⟩ := a.rel.ow j m u z
        have hn : n < M.length := hflt (fun _ => True) n ⟨j, m, u, trivial, z, h1⟩
        exact ⟨n, o, h1, h2, by rw [hlt n hn]; exact h3, h4.takeS hl (hl n o hn h3)⟩
    have aT : Rs sc Av M P sl (M'.take M.length) P fin := ⟨RT, a.fo, by rw [htl]; exact Nat.le_refl _, fun n h1 h2 h3 => by rw [hlt n h1]; exact a.fr n h1 h2 h3, a.io, a.oi⟩
    by_cases hd : d.low M.length = true
    · refine ⟨d, M'.take M.length, by unfold gc; rw [if_pos hk, if_pos hd], aT, ?_⟩
      cases w with
      | false => exact VR.sh (Is.take hl v d hv.is hd)
      | true =>
        unfold VR at hv
        simp only [if_true] at hv
        obtain ⟨n, o, rfl, h1, _⟩ := hv
        simp only [D.low, decide_eq_true_eq] at hd
        omega
    · cases d with
      | ref n =>
        cases ho : M'[n]? with
        | none => exact triv (by unfold gc; rw [if_pos hk, if_neg hd]; simp only [ho])
        | some o =>
          by_cases hfz : o.isFrz = true
          · cases o with
            | frz _ => exact triv (by unfold gc; rw [if_pos hk, if_neg hd]; simp only [ho])
            | lst _ => cases hfz
            | dicK _ => cases hfz
            | dicT _ => cases hfz
            | ins _ _ => cases hfz
          · by_cases hol : o.low M.length = true
            · have hg : gc M (.ref n) M' = .ok (.ref M.length) (M'.take M.length ++ [o]) := by
                unfold gc
                rw [if_pos hk, if_neg hd]
                simp only [ho]
                cases o with
                | frz _ => exact absurd rfl hfz
                | lst _ => simp only [hol, if_true]
                | dicK _ => simp only [hol, if_true]
                | dicT _ => simp only [hol, if_true]
                | ins _ _ => simp only [hol, if_true]
              have hc : Cel sc M' (Bd Av P fin) v o := by
                rcases hv.is.cel with ⟨o', _, h1, h2⟩ | ⟨_, c, h1⟩
                · rw [ho] at h1; cases h1; exact h2
                · have := (R.src n c h1).lt.1
                  simp only [D.low, decide_eq_true_eq] at hd
                  omega
              have hc2 := hc.takeS hl hol
              have hlow : o.low ((M'.take M.length).length + 1) = true := MO.low_le (by rw [htl]; omega) o hol
              refine ⟨.ref M.length, M'.take M.length ++ [o], hg, aT.grow hlow, ?_⟩
              have hnew := VR.new (k := M.length) RT (by rw [htl]; exact Nat.le_refl _) hc2
              rw [htl] at hnew
              cases w with
              | true => exact hnew
              | false => exact VR.sh hnew.is
            · exact triv (by
                unfold gc
                rw [if_pos hk, if_neg hd]
                simp only [ho]
                cases o with
                | frz _ => rfl
                | lst _ => simp only [hol, Bool.false_eq_true, if_false]
                | dicK _ => simp only [hol, Bool.false_eq_true, if_false]
                | dicT _ => simp only [hol, Bool.false_eq_true, if_false]
                | ins _ _ => simp only [hol, Bool.false_eq_true, if_false])
      | non => exact absurd rfl hd
      | bl _ => exact absurd rfl hd
      | int _ => exact absurd rfl hd
      | str _ => exact absurd rfl hd
      | cst _ => exact absurd rfl hd
      | tup _ => exact triv (by unfold gc; rw [if_pos hk, if_neg hd])
      | ktp _ => exact triv (by unfold gc; rw [if_pos hk, if_neg hd])
  · exact triv (by unfold gc; rw [if_neg hk])
theorem fin_is {P : Env} {sl : List PSlot} (R : Rel sc Av M P sl) (hno : NoOwn sl) {o : OutS} : ∀ {c : C PR}, OkS sc Av M (P ++ List.replicate k none) (sl ++ List.replicate k .un) o c → Ok (RC sc Av M P sl) (XE sc Av M P sl) (finS M o) (finP sl.length c)
  | .ret (.nx e'), h => by
    obtain ⟨eta', M', rfl, a⟩ := h
    obtain ⟨aF, hb, hP⟩ := a.fin R
    obtain ⟨d1, M1, h1, h2, h3⟩ := gc_is (w := false) (v := .non) (d := .non) R aF (fun j u z => finSlots_sh _ _ j z) (fun j u z => (finSlots_get _ _ j z).2.1 rfl) (VR.sh (by simp [Is]))
    exact ⟨d1, M1, h1, h2, h3⟩
  | .ret (.bk e'), h => trivial
  | .ret (.ct e'), h => trivial
  | .ret (.rt w v e'), h => by
    obtain ⟨d, M', eta', rfl, a, hv⟩ := h
    obtain ⟨aF, hb, hP⟩ := a.fin R
    have hv2 : VR sc Av M.length M' P (finSlots sl.length e') w v d := by
      unfold RV at hv; unfold VR
      cases w with
      | false =>
        simp only [Bool.false_eq_true, if_false] at hv ⊢
        exact Is.mono (fun n o x y => ⟨fun z => x (hb n z), y⟩) _ _ hv
      | true =>
        simp only [if_true] at hv ⊢
        obtain ⟨n, o, rfl, h1, h2, h3, h4, h5⟩ := hv
        obtain ⟨R2, f2⟩ := h4.fin (np := sl.length) R.len hP
        refine ⟨n, o, rfl, ?_, h2, h3, R2, Cel.mono (fun j u x y => ⟨fun z => x (z.elim .inl fun q => .inr (f2 _ _ q)), y⟩) h5⟩
        rcases h1 with ⟨j, m, u, x0, x1, x2⟩ | h1
        · have := (ext_get sl k j x1 (by simp)).1
          rw [x0] at this
          exact absurd this (hno j u)
        · exact h1
    obtain ⟨d1, M1, h1, h2, h3⟩ := gc_is R aF (fun j u z => finSlots_sh _ _ j z) (fun j u z => (finSlots_get _ _ j z).2.1 rfl) hv2
    exact ⟨d1, M1, h1, h2, h3⟩
  | .exc x ns vs e', h => by
    obtain ⟨fs, M', eta', rfl, a, h1, h2⟩ := h
    obtain ⟨aF, hb, hP⟩ := a.fin R
    exact ⟨fs, M', rfl, aF, h1, IsL.mono (fun n o x y => ⟨fun z => x (hb n z), y⟩) _ _ h2⟩
  | .draw n f, h => by obtain ⟨i, hi, h⟩ := h; exact ⟨i, hi, fin_is R hno h⟩
  | .bad, _ => trivial
/-- a table's entry and its shadow -/
inductive EntOk (sc : SC) : Fn → PEnt → Prop
  | fn {nn np : Nat} {b : Tab → EvS} {p : PTab → PStm} (h : ∀ T U, TSnd sc T U → SS sc (b T) (p U)) : EntOk sc ⟨nn, np, b⟩ (.fn nn np p)
  | pick : EntOk sc ⟨4, 2, fun _ => cPick⟩ .pick
  | bad {F : Fn} {nn np : Nat} : EntOk sc F (.fn nn np fun _ => pBad)
theorem pick_is {i : Nat} {Q : List Fn} (h : Q[i]? = some ⟨4, 2, fun _ => cPick⟩) {ds : List D} {sl : List PSlot} (R : Rel sc Av M (ds.map some) sl) : Ok (RC sc Av M (ds.map some) sl) (XE sc Av M (ds.map some) sl) (tabOf Q (k + 1) i ds M) (pPick sl) := by
  unfold pPick
  split
  · rename_i many
    by_cases hc : 1 ≤ many.toNat ∧ many.toNat ≤ 1152921504606846975
    · rw [if_pos hc]
      have hc2 : 1 ≤ many ∧ many < 2 ^ 60 := by
        have e : (2 : Int) ^ 60 = 1152921504606846976 := by decide
        rw [e]; omega
      obtain ⟨d0, h0, g0⟩ := R.sh 0 _ rfl
      obtain ⟨d1, h1, g1⟩ := R.sh 1 _ rfl
      have hlen := R.len
      rw [List.length_map] at hlen
      match ds, hlen with
      | [x, y], _ =>
        simp at h0 h1
        subst h0; subst h1
        simp only [Is] at g0 g1
        obtain ⟨s, c, hsc, rfl⟩ := g0
        subst g1
        have hsrc := R.src s c hsc
        obtain ⟨r, M', e1, e2, e3, hs, b⟩ := pick_ok (F := ⟨4, 2, fun _ => cPick⟩) h rfl rfl rfl hsrc hc2.1 hc2.2 (k := k)
        refine ⟨r.toNat, by omega, .int r, M', e1, ?_, VR.sh (by simp only [Is]; congr 1; omega)⟩
        have hnf : ∀ (Q' : Mode → Prop) n (et : Env) (xs : List PSlot), (∀ (j : Nat) m v, xs[j]? ≠ some (PSlot.ow m v)) → ¬ FoM Q' et xs n := fun Q' n et xs hx ⟨j, m, v, _, h, _⟩ => hx j m v h
        have hx1 : ∀ (j : Nat) m v, ([PSlot.un, PSlot.un] : List PSlot)[j]? ≠ some (PSlot.ow m v) := fun j m v z => by
          match j, z with
          | 0, z => simp at z
          | 1, z => simp at z
        have hx2 : ∀ (j : Nat) m v, ([PSlot.sh .src, PSlot.sh (.int many)] : List PSlot)[j]? ≠ some (PSlot.ow m v) := fun j m v z => by
          match j, z with
          | 0, z => simp at z
          | 1, z => simp at z
        refine ⟨⟨rfl, fun n o ho => ?_, fun s' c' hs' => ?_, R.asrc, fun n z => by rw [b.len]; exact R.av n z, fun j v z => ?_, fun j m v z => absurd z (hx1 j m v), fun j l m1 v1 m2 v2 k a _ _ _ => absurd a (hx1 j m1 v1)⟩, fun Q' n z => absurd z (hnf Q' n _ _ hx1), Nat.le_of_eq b.len.symm, fun n _ _ h3 => b.at_ n (fun z => h3 ⟨s, c, hsc, .inl z⟩) (fun z => h3 ⟨s, c, hsc, .inr z⟩), fun j m v _ z => absurd z (hx2 j m v), fun j m v _ z => absurd z (hx1 j m v)⟩
        · rw [b.len]
          obtain ⟨ne, cs, l, mm, t, x1, x2, x3⟩ := hs
          by_cases q1 : n = s
          · subst q1
            rw [x1] at ho; cases ho
            simp [srcO, MO.low, lowL, D.low, hsrc.lt.2]
          · by_cases q2 : n = c
            · subst q2
              rw [x2] at ho; cases ho
              exact lowL_ints _ _
            · rw [b.at_ n q1 q2] at ho
              exact R.wf n o ho
        · rw [hsc] at hs'; cases hs'; exact hs
        · match j, z with
          | 0, z => simp at z
          | 1, z => simp at z
    · rw [if_neg hc]; trivial
  · trivial
theorem tab_is {Q : List Fn} {P : List PEnt} (h : ∀ (i : Nat) (p : PEnt), P[i]? = some p → ∃ F, Q[i]? = some F ∧ EntOk sc F p) : ∀ k, TSnd sc (tabOf Q k) (ptab P k)
  | 0 => fun i Av M ds sl R hno => trivial
  | k + 1 => fun i Av M ds sl R hno => by
    show Ok _ _ _ (match P[i]? with
      | some (.fn nn np b) => if sl.length = np then finP np (b (ptab P k) (sl ++ List.replicate (nn - np) .un)) else .bad
      | some .pick => pPick sl
      | none => .bad)
    cases hp : P[i]? with
    | none => trivial
    | some p =>
      obtain ⟨F, hF, hE⟩ := h i p hp
      cases hE with
      | @fn nn np b q hb =>
        simp only
        by_cases hl : sl.length = np
        · rw [if_pos hl]
          have hds : ds.length = np := by
            have := R.len
            rw [List.length_map] at this
            omega
          rw [tab_at hF hds]
          obtain ⟨RX, _⟩ := R.ext (nn - np)
          have := fin_is (k := nn - np) R hno (hb _ _ (tab_is h k) Av M _ _ RX)
          rw [hl] at this
          exact this
        · rw [if_neg hl]; trivial
      | pick => exact pick_is hF R
      | @bad _ nn np =>
        simp only
        by_cases hl : sl.length = np
        · rw [if_pos hl]; trivial
        · rw [if_neg hl]; trivial
end
end Ev
namespace Ev
open PySem L2
def C.mapE {α : Type} (g : PEnv → PEnv) : C α → C α
  | .ret a => .ret a
  | .exc x ns vs e => .exc x ns vs (g e)
  | .draw k f => .draw k fun i => (f i).mapE g
  | .bad => .bad
def distA : List PA → Bool
  | [] => true
  | .v _ :: r => distA r
  | .s j :: r => (r.all fun a => match a with
    | .s j' => decide (j' ≠ j)
    | .v _ => true) && distA r
/-- what a def is given: a slot's place to read (false) or to write (true) -/
def argOf (e : PEnv) : PA → Bool → Option PSlot
  | .v x, _ => some (.sh x)
  | .s j, true => (match e[j]? with
    | some (.ow .own v) => some (.ow .io v)
    | some (.ow .io v) => some (.ow .io v)
    | _ => none)
  | .s j, false => (match e[j]? with
    | some (.sh v) => some (.sh v)
    | some (.ow _ v) => some (.ow .lk v)
    | _ => none)
def argSl (e : PEnv) : List PA → List Bool → Option (List PSlot)
  | [], [] => some []
  | a :: as, m :: ms => (match argOf e a m with
    | some s => (argSl e as ms).map (s :: ·)
    | none => none)
  | _, _ => none
def upd1 (e : PEnv) : PA → Bool → PSlot → PEnv
  | .s j, true, .ow .io v => (match e[j]? with
    | some (.ow m _) => e.set j (.ow m v)
    | _ => e)
  | _, _, _ => e
def updA (e : PEnv) : List PA → List Bool → List PSlot → PEnv
  | a :: as, m :: ms, f :: fs => updA (upd1 e a m f) as ms fs
  | _, _, _ => e
def pCall (U : PTab) (i : Nat) (q : POps) (ms : List Bool) : PExp := fun e => (pOps q e).bind fun r => if distA r.1 = true then (match argSl r.2 r.1 ms with
  | some sl => ((U i sl).mapE (updA r.2 r.1 ms)).bind fun s => .ret (s.1, s.2.1, updA r.2 r.1 ms s.2.2)
  | none => .bad) else .bad
section
variable {sc : SC} {Av Av' : NP} {M M1 M' S : Store} {eta eta' eta1 etS : Env} {e e1 e' eS : PEnv} {B B' : NP} {k : Nat}
theorem upd1_ne {a : PA} {m : Bool} {f : PSlot} {j : Nat} (h : ∀ j', a = .s j' → j' ≠ j) : (upd1 e a m f)[j]? = e[j]? := by
  unfold upd1
  split
  · rename_i j' v
    split
    · rw [List.getElem?_set_ne (h j' rfl)]
    · rfl
  · rfl
theorem updA_other {j : Nat} : ∀ {as : List PA} {ms : List Bool} {fs : List PSlot} {e : PEnv}, (∀ a ∈ as, ∀ j', a = .s j' → j' ≠ j) → (updA e as ms fs)[j]? = e[j]?
  | [], ms, fs, e, h => by simp only [updA]
  | a :: as, [], fs, e, h => by simp only [updA]
  | a :: as, m :: ms, [], e, h => by simp only [updA]
  | a :: as, m :: ms, f :: fs, e, h => by
    simp only [updA]
    rw [updA_other fun b hb => h b (List.mem_cons_of_mem _ hb), upd1_ne (h a (List.mem_cons_self ..))]
theorem updA_len : ∀ {as : List PA} {ms : List Bool} {fs : List PSlot} {e : PEnv}, (updA e as ms fs).length = e.length
  | [], ms, fs, e => by simp only [updA]
  | a :: as, [], fs, e => by simp only [updA]
  | a :: as, m :: ms, [], e => by simp only [updA]
  | a :: as, m :: ms, f :: fs, e => by
    simp only [updA]
    rw [updA_len]
    unfold upd1
    split
    · split
      · simp
      · rfl
    · rfl
theorem distA_cons {j : Nat} {r : List PA} (h : distA (.s j :: r) = true) : (∀ a ∈ r, ∀ j', a = .s j' → j' ≠ j) ∧ distA r = true := by
  simp only [distA, Bool.and_eq_true, List.all_eq_true] at h
  refine ⟨fun a ha j' hj => ?_, h.2⟩
  have := h.1 a ha
  subst hj
  simpa using this
theorem distA_tail {a : PA} {r : List PA} (h : distA (a :: r) = true) : distA r = true := by
  cases a with
  | v x => simpa only [distA] using h
  | s j => exact (distA_cons h).2
/-- a slot that is given to write is what the def left -/
theorem updA_at {j : Nat} : ∀ {as : List PA} {ms : List Bool} {fs : List PSlot} {e : PEnv} {i : Nat} {m : Mode} {v u : PV}, distA as = true → as[i]? = some (.s j) → ms[i]? = some true → fs[i]? = some (.ow .io v) → e[j]? = some (.ow m u) → (updA e as ms fs)[j]? = some (.ow m v)
  | [], ms, fs, e, i, m, v, u, hd, h1, h2, h3, h4 => by simp at h1
  | a :: as, [], fs, e, i, m, v, u, hd, h1, h2, h3, h4 => by simp at h2
  | a :: as, b :: ms, [], e, i, m, v, u, hd, h1, h2, h3, h4 => by simp at h3
  | a :: as, b :: ms, f :: fs, e, 0, m, v, u, hd, h1, h2, h3, h4 => by
    simp at h1 h2 h3
    subst h1; subst h2; subst h3
    simp only [updA]
    rw [updA_other (distA_cons hd).1]
    simp only [upd1, h4]
    rw [List.getElem?_set_self (List.getElem?_eq_some_iff.mp h4).1]
  | a :: as, b :: ms, f :: fs, e, i + 1, m, v, u, hd, h1, h2, h3, h4 => by
    simp only [List.getElem?_cons_succ] at h1 h2 h3
    simp only [updA]
    refine updA_at (distA_tail hd) h1 h2 h3 (u := u) ?_
    rw [upd1_ne fun j' hj => ?_]
    · exact h4
    · subst hj
      have := (distA_cons hd).1 _ (List.mem_of_getElem? h1) j rfl
      exact Ne.symm this
/-- .. else it is as it was -/
theorem updA_keep {j : Nat} : ∀ {as : List PA} {ms : List Bool} {fs : List PSlot} {e : PEnv}, (∀ (i : Nat) (v : PV), as[i]? = some (PA.s j) → ms[i]? = some true → fs[i]? = some (PSlot.ow .io v) → False) → (updA e as ms fs)[j]? = e[j]?
  | [], ms, fs, e, h => by simp only [updA]
  | a :: as, [], fs, e, h => by simp only [updA]
  | a :: as, m :: ms, [], e, h => by simp only [updA]
  | a :: as, m :: ms, f :: fs, e, h => by
    simp only [updA]
    rw [updA_keep fun i v h1 h2 h3 => h (i + 1) v (by simpa using h1) (by simpa using h2) (by simpa using h3)]
    by_cases ha : a = .s j
    · subst ha
      unfold upd1
      split
      · rename_i j' v hj
        cases hj
        exact (h 0 v rfl rfl rfl).elim
      · rfl
    · exact upd1_ne fun j' hj q => ha (by rw [hj, q])
theorem distA_pos : ∀ {as : List PA} {i l j : Nat}, distA as = true → as[i]? = some (.s j) → as[l]? = some (.s j) → i = l
  | [], i, l, j, hd, h1, h2 => by simp at h1
  | a :: as, 0, 0, j, hd, h1, h2 => rfl
  | a :: as, 0, l + 1, j, hd, h1, h2 => by
    simp at h1 h2
    subst h1
    exact absurd rfl ((distA_cons hd).1 _ (List.mem_of_getElem? h2) j rfl)
  | a :: as, i + 1, 0, j, hd, h1, h2 => by
    simp at h1 h2
    subst h2
    exact absurd rfl ((distA_cons hd).1 _ (List.mem_of_getElem? h1) j rfl)
  | a :: as, i + 1, l + 1, j, hd, h1, h2 => by
    simp at h1 h2
    rw [distA_pos (distA_tail hd) h1 h2]
theorem argSl_get : ∀ {as : List PA} {ms : List Bool} {sl : List PSlot}, argSl e as ms = some sl → sl.length = as.length ∧ ms.length = as.length ∧ ∀ (i : Nat) (s : PSlot), sl[i]? = some s → ∃ a m, as[i]? = some a ∧ ms[i]? = some m ∧ argOf e a m = some s
  | [], [], sl, h => by simp only [argSl] at h; cases h; exact ⟨rfl, rfl, fun i s h => by simp at h⟩
  | [], _ :: _, sl, h => by simp only [argSl] at h; cases h
  | _ :: _, [], sl, h => by simp only [argSl] at h; cases h
  | a :: as, m :: ms, sl, h => by
    simp only [argSl] at h
    cases q : argOf e a m with
    | none => rw [q] at h; cases h
    | some s0 =>
      cases q2 : argSl e as ms with
      | none => rw [q, q2] at h; cases h
      | some sl0 =>
        rw [q, q2] at h; cases h
        obtain ⟨x1, x2, x3⟩ := argSl_get q2
        refine ⟨by simp [x1], by simp [x2], fun i s hs => ?_⟩
        cases i with
        | zero => simp at hs; subst hs; exact ⟨a, m, rfl, rfl, q⟩
        | succ i =>
          simp only [List.getElem?_cons_succ] at hs ⊢
          exact x3 i s hs
theorem AR.get : ∀ {as : List PA} {ds : List D}, AR sc Av M eta e as ds → ds.length = as.length ∧ ∀ (i : Nat) (a : PA), as[i]? = some a → ∃ d, ds[i]? = some d ∧ match a with
    | .v x => Is sc M (Bd Av eta e) x d
    | .s j => eta[j]? = some (some d)
  | [], ds, h => by simp only [AR] at h; subst h; exact ⟨rfl, fun i a h => by simp at h⟩
  | .v x :: as, ds, h => by
    simp only [AR] at h
    obtain ⟨d, es, rfl, h1, h2⟩ := h
    obtain ⟨x1, x2⟩ := AR.get h2
    refine ⟨by simp [x1], fun i a ha => ?_⟩
    cases i with
    | zero => simp at ha; subst ha; exact ⟨d, rfl, h1⟩
    | succ i => simp only [List.getElem?_cons_succ] at ha ⊢; exact x2 i a ha
  | .s j :: as, ds, h => by
    simp only [AR] at h
    obtain ⟨d, es, rfl, h1, h2⟩ := h
    obtain ⟨x1, x2⟩ := AR.get h2
    refine ⟨by simp [x1], fun i a ha => ?_⟩
    cases i with
    | zero => simp at ha; subst ha; exact ⟨d, rfl, h1⟩
    | succ i => simp only [List.getElem?_cons_succ] at ha ⊢; exact x2 i a ha
theorem argOf_ow {a : PA} {b : Bool} {m : Mode} {v : PV} (h : argOf e a b = some (.ow m v)) : ∃ j m0, a = .s j ∧ e[j]? = some (.ow m0 v) ∧ m ≠ .own ∧ (m = .io → m0 ≠ .lk ∧ b = true) ∧ (b = true → m = .io) := by
  cases a with
  | v x => cases b <;> simp only [argOf] at h <;> cases h
  | s j =>
    cases b with
    | true =>
      simp only [argOf] at h
      split at h
      · rename_i hq; cases h; exact ⟨j, _, rfl, hq, by decide, fun _ => ⟨by decide, rfl⟩, fun _ => rfl⟩
      · rename_i hq; cases h; exact ⟨j, _, rfl, hq, by decide, fun _ => ⟨by decide, rfl⟩, fun _ => rfl⟩
      · cases h
    | false =>
      simp only [argOf] at h
      split at h
      · cases h
      · rename_i m' v' hq; cases h; exact ⟨j, _, rfl, hq, by decide, (fun z => by cases z), (fun z => by cases z)⟩
      · cases h
/-- what a call gives and takes -/
structure Giv (sc : SC) (Av : NP) (M : Store) (eta : Env) (e : PEnv) (as : List PA) (ms : List Bool) (ds : List D) (sl : List PSlot) : Prop where
  dist : distA as = true
  sls : argSl e as ms = some sl
  ar : AR sc Av M eta e as ds
def AvG (Av : NP) (eta : Env) (e : PEnv) (ds : List D) (sl : List PSlot) : NP := fun n => Bd Av eta e n ∧ ¬ Fo (ds.map some) sl n
theorem Giv.ow {as : List PA} {ms : List Bool} {ds : List D} {sl : List PSlot} (G : Giv sc Av M eta e as ms ds sl) {i : Nat} {m : Mode} {v : PV} (h : sl[i]? = some (.ow m v)) :
    ∃ j m0 d, as[i]? = some (.s j) ∧ e[j]? = some (.ow m0 v) ∧ m ≠ .own ∧ (m = .io → m0 ≠ .lk ∧ ms[i]? = some true) ∧ (ds.map some)[i]? = some (some d) ∧ eta[j]? = some (some d) := by
  obtain ⟨_, _, x3⟩ := argSl_get G.sls
  obtain ⟨a, b, y1, y2, y3⟩ := x3 i _ h
  obtain ⟨j, m0, rfl, z1, z2, z3, _⟩ := argOf_ow y3
  obtain ⟨d, w1, w2⟩ := G.ar.get.2 i _ y1
  exact ⟨j, m0, d, y1, z1, z2, fun q => ⟨(z3 q).1, by rw [y2, (z3 q).2]⟩, by simp [w1], w2⟩
theorem Giv.fo {as : List PA} {ms : List Bool} {ds : List D} {sl : List PSlot} (G : Giv sc Av M eta e as ms ds sl) {n : Nat} {P Q : Mode → Prop} (k : ∀ m m0, P m → (m = .io → m0 ≠ .lk) → m ≠ .own → Q m0) (h : FoM P (ds.map some) sl n) : FoM Q eta e n := by
  obtain ⟨i, m, v, h0, h1, h2⟩ := h
  obtain ⟨j, m0, d, x1, x2, x3, x4, x5, x6⟩ := G.ow h1
  rw [x5] at h2; cases h2
  exact ⟨j, m0, v, k m m0 h0 (fun z => (x4 z).1) x3, x2, x6⟩
theorem Giv.rel {as : List PA} {ms : List Bool} {ds : List D} {sl : List PSlot} (G : Giv sc Av M eta e as ms ds sl) (R : Rel sc Av M eta e) : Rel sc (AvG Av eta e ds sl) M (ds.map some) sl ∧ NoOwn sl ∧ ∀ n, Bd (AvG Av eta e ds sl) (ds.map some) sl n ↔ Bd Av eta e n := by
  obtain ⟨x1, x2, x3⟩ := argSl_get G.sls
  obtain ⟨y1, y2⟩ := G.ar.get
  have hfo : ∀ n, Fo (ds.map some) sl n → Fo eta e n := fun n h => G.fo (fun _ _ _ _ _ => trivial) h
  have hbd : ∀ n, Bd (AvG Av eta e ds sl) (ds.map some) sl n ↔ Bd Av eta e n := fun n => by
    constructor
    · rintro (h | h)
      · exact h.1
      · exact .inr (hfo n h)
    · intro h
      by_cases hp : Fo (ds.map some) sl n
      · exact .inr hp
      · exact .inl ⟨h, hp⟩
  have key : ∀ (n : Nat) (u : MO), ¬ Bd Av eta e n → M[n]? = some u → ¬ Bd (AvG Av eta e ds sl) (ds.map some) sl n ∧ M[n]? = some u := fun n u a b => ⟨fun z => a ((hbd n).mp z), b⟩
  refine ⟨⟨by rw [List.length_map, y1, x1], R.wf, R.src, fun n h => ⟨.inl (R.asrc n h), fun z => R.fo_av (hfo n z) (R.asrc n h)⟩, fun n h => R.bd_lt h.1, fun i v h => ?_, fun i m v h => ?_, fun i l m1 v1 m2 v2 n h1 h2 h3 h4 => ?_⟩, fun j v h => ?_, hbd⟩
  · obtain ⟨a, b, z1, z2, z3⟩ := x3 i _ h
    obtain ⟨d, w1, w2⟩ := y2 i a z1
    refine ⟨d, by simp [w1], Is.mono key _ _ ?_⟩
    cases a with
    | v x => cases b <;> simp only [argOf] at z3 <;> cases z3 <;> exact w2
    | s j =>
      cases b with
      | true =>
        simp only [argOf] at z3
        split at z3 <;> cases z3
      | false =>
        simp only [argOf] at z3
        split at z3
        · rename_i hq
          cases z3
          obtain ⟨d', q1, q2⟩ := R.sh j _ hq
          simp only at w2
          rw [w2] at q1; cases q1
          exact q2
        · cases z3
        · cases z3
  · obtain ⟨j, m0, d, z1, z2, z3, z4, z5, z6⟩ := G.ow h
    obtain ⟨n, o, q1, q2, q3, q4⟩ := R.ow j m0 v z2
    rw [z6] at q1; cases q1
    exact ⟨n, o, z5, fun z => z.2 ⟨i, m, v, trivial, h, z5⟩, q3, Cel.mono key q4⟩
  · obtain ⟨j, m0, d, z1, z2, z3, z4, z5, z6⟩ := G.ow h1
    obtain ⟨j', m0', d', w1, w2, w3, w4, w5, w6⟩ := G.ow h2
    rw [z5] at h3; cases h3
    rw [w5] at h4; cases h4
    have hj := R.dj j j' _ _ _ _ n z2 w2 z6 w6
    subst hj
    exact distA_pos G.dist z1 w1
  · obtain ⟨j', m0, d, z1, z2, z3, _⟩ := G.ow h
    exact z3 rfl
/-- the caller's slots behind a call; X: a fresh place -/
theorem Giv.back {as : List PA} {ms : List Bool} {ds : List D} {sl fin : List PSlot} {X : NP} (G : Giv sc Av M eta e as ms ds sl) (R : Rel sc Av M eta e) (a : Rs sc (AvG Av eta e ds sl) M (ds.map some) sl M' (ds.map some) fin)
    (hX : ∀ n, X n → M.length ≤ n) (RX : Rel sc (fun n => AvG Av eta e ds sl n ∨ X n) M' (ds.map some) fin) :
    Rel sc (fun n => Av n ∨ X n) M' eta (updA e as ms fin) ∧ (∀ (P : Mode → Prop) n, FoM P eta (updA e as ms fin) n ↔ FoM P eta e n) ∧ ∀ n, Bd (fun n => Av n ∨ X n) eta (updA e as ms fin) n → Bd (fun n => AvG Av eta e ds sl n ∨ X n) (ds.map some) fin n := by
  -- each slot: as it was, or given to write
  have slots : ∀ (j : Nat), ((updA e as ms fin)[j]? = e[j]? ∧ ∀ (i : Nat), as[i]? = some (PA.s j) → ms[i]? = some true → ∀ v, fin[i]? ≠ some (PSlot.ow .io v)) ∨ ∃ (i : Nat) (m : Mode) (u v : PV), as[i]? = some (PA.s j) ∧ ms[i]? = some true ∧ fin[i]? = some (.ow .io v) ∧ sl[i]? = some (.ow .io u) ∧ e[j]? = some (.ow m u) ∧ m ≠ .lk ∧ (updA e as ms fin)[j]? = some (.ow m v) := fun j => by
    by_cases h : ∃ (i : Nat) (v : PV), as[i]? = some (PA.s j) ∧ ms[i]? = some true ∧ fin[i]? = some (PSlot.ow .io v)
    · obtain ⟨i, v, h1, h2, h3⟩ := h
      obtain ⟨u, h4⟩ := a.oi i _ v (by decide) h3
      obtain ⟨j', m0, d, z1, z2, z3, z4, z5, z6⟩ := G.ow h4
      rw [h1] at z1; cases z1
      exact .inr ⟨i, m0, u, v, h1, h2, h3, h4, z2, (z4 rfl).1, updA_at G.dist h1 h2 h3 z2⟩
    · refine .inl ⟨updA_keep fun i v h1 h2 h3 => h ⟨i, v, h1, h2, h3⟩, fun i h1 h2 v h3 => h ⟨i, v, h1, h2, h3⟩⟩
  have hfo : ∀ (P : Mode → Prop) n, FoM P eta (updA e as ms fin) n ↔ FoM P eta e n := fun P n => by
    constructor
    · rintro ⟨j, m, v, h0, h1, h2⟩
      rcases slots j with ⟨q, _⟩ | ⟨i, m', u, v', _, _, _, _, q1, _, q2⟩
      · exact ⟨j, m, v, h0, by rw [← q]; exact h1, h2⟩
      · rw [q2] at h1; cases h1
        exact ⟨j, m, u, h0, q1, h2⟩
    · rintro ⟨j, m, v, h0, h1, h2⟩
      rcases slots j with ⟨q, _⟩ | ⟨i, m', u, v', _, _, _, _, q1, _, q2⟩
      · exact ⟨j, m, v, h0, by rw [q]; exact h1, h2⟩
      · rw [q1] at h1; cases h1
        exact ⟨j, m, v', h0, q2, h2⟩
  -- what is forbidden
  have hbd : ∀ n, Bd (fun n => Av n ∨ X n) eta (updA e as ms fin) n → Bd (fun n => AvG Av eta e ds sl n ∨ X n) (ds.map some) fin n := fun n h => by
    have h' : Bd Av eta e n ∨ X n := by
      rcases h with (h | h) | h
      · exact .inl (.inl h)
      · exact .inr h
      · exact .inl (.inr ((hfo _ n).mp h))
    rcases h' with h' | h'
    · by_cases hp : Fo (ds.map some) sl n
      · obtain ⟨i, m, v, _, h1, h2⟩ := hp
        obtain ⟨_, _, _, _, _, z3, _⟩ := G.ow h1
        obtain ⟨⟨v', h3⟩, _⟩ := a.io i m v z3 h1
        exact .inr ⟨i, m, v', trivial, h3, h2⟩
      · exact .inl (.inl ⟨h', hp⟩)
    · exact .inl (.inr h')
  obtain ⟨RG, hno, hg⟩ := G.rel R
  have key : ∀ (n : Nat) (u : MO), ¬ Bd Av eta e n → M[n]? = some u → ¬ Bd (fun n => Av n ∨ X n) eta (updA e as ms fin) n ∧ M'[n]? = some u := fun n u x y => by
    have hl := (List.getElem?_eq_some_iff.mp y).1
    refine ⟨fun z => ?_, ?_⟩
    · rcases z with (z | z) | z
      · exact x (.inl z)
      · have := hX n z; omega
      · exact x (.inr ((hfo _ n).mp z))
    · rw [a.fr n hl (fun z => x (.inr (G.fo (fun _ _ _ _ _ => trivial) z))) (fun z => x (.inl (R.asrc n z)))]; exact y
  refine ⟨⟨by rw [updA_len]; exact R.len, RX.wf, RX.src, fun n h => .inl (R.asrc n h), fun n h => ?_, fun j v h => ?_, fun j m v h => ?_, fun j l m1 v1 m2 v2 n h1 h2 h3 h4 => ?_⟩, hfo, hbd⟩
  · rcases h with h | h
    · exact Nat.lt_of_lt_of_le (R.av n h) a.le
    · exact RX.av n (.inr h)
  · rcases slots j with ⟨q, _⟩ | ⟨i, m', u, v', _, _, _, _, q1, _, q2⟩
    · rw [q] at h
      obtain ⟨d, h1, h2⟩ := R.sh j v h
      exact ⟨d, h1, Is.mono key _ _ h2⟩
    · rw [q2] at h; cases h
  · rcases slots j with ⟨q, hq⟩ | ⟨i, m', u, v', w1, w2, w3, w4, q1, q2, q3⟩
    · rw [q] at h
      obtain ⟨n, o, h1, h2, h3, h4⟩ := R.ow j m v h
      have hl := (List.getElem?_eq_some_iff.mp h3).1
      refine ⟨n, o, h1, fun z => z.elim h2 fun z => ?_, ?_, Cel.mono key h4⟩
      · have := hX n z; omega
      · rw [a.fr n hl (fun z => ?_) (fun z => h2 (R.asrc n z))]
        · exact h3
        · obtain ⟨i, mm, vv, x0, x1, x2⟩ := z
          obtain ⟨j', m0, d, z1, z2, z3, z4, z5, z6⟩ := G.ow x1
          rw [z5] at x2; cases x2
          have hj := R.dj j j' _ _ _ _ n h z2 h1 z6
          subst hj
          have hmio : mm = .io := by
            cases mm with
            | own => exact absurd rfl z3
            | io => rfl
            | lk => exact absurd rfl x0
          subst hmio
          obtain ⟨⟨v', h5⟩, _⟩ := a.io i _ _ (by decide) x1
          exact hq i z1 (z4 rfl).2 v' h5
    · rw [q3] at h; cases h
      obtain ⟨n, o, h1, h2, h3, h4⟩ := RX.ow i _ _ w3
      obtain ⟨j', m0, d, z1, z2, z3, z4, z5, z6⟩ := G.ow w4
      rw [w1] at z1; cases z1
      rw [z5] at h1; cases h1
      refine ⟨n, o, z6, fun z => ?_, h3, Cel.mono (fun k u x y => ⟨fun z => x (hbd k z), y⟩) h4⟩
      rcases z with z | z
      · exact R.fo_av (P := fun _ => True) ⟨j, _, _, trivial, q1, z6⟩ z
      · exact h2 (.inr z)
  · have aux : ∀ (j : Nat) (m : Mode) (v : PV), (updA e as ms fin)[j]? = some (PSlot.ow m v) → ∃ v', e[j]? = some (PSlot.ow m v') := fun j m v h => by
      rcases slots j with ⟨q, _⟩ | ⟨i, m', u, v', _, _, _, _, q1, _, q2⟩
      · exact ⟨v, by rw [← q]; exact h⟩
      · rw [q2] at h; cases h; exact ⟨u, q1⟩
    obtain ⟨_, y1⟩ := aux j m1 v1 h1
    obtain ⟨_, y2⟩ := aux l m2 v2 h2
    exact R.dj j l _ _ _ _ n y1 y2 h3 h4
theorem Giv.rs {as : List PA} {ms : List Bool} {ds : List D} {sl fin : List PSlot} (G : Giv sc Av M eta e as ms ds sl) (R : Rel sc Av M eta e) (a : Rs sc (AvG Av eta e ds sl) M (ds.map some) sl M' (ds.map some) fin) : Rs sc Av M eta e M' eta (updA e as ms fin) ∧ ∀ n, Bd Av eta (updA e as ms fin) n → Bd (AvG Av eta e ds sl) (ds.map some) fin n := by
  obtain ⟨RB, hfo, hbd⟩ := G.back (X := fun _ => False) R a (fun _ h => h.elim) (a.rel.less (fun n h => h.elim id False.elim) fun n h => .inl (a.rel.asrc n h))
  refine ⟨⟨RB.less (fun n h => .inl h) R.asrc, fun P n h => .inl ((hfo P n).mp h), a.le, fun n h1 h2 h3 => a.fr n h1 (fun z => h2 (G.fo (fun m m0 x y w => ?_) z)) h3, fun j m v hm h => ⟨?_, rfl⟩, fun j m v hm h => ?_⟩, fun n h => ?_⟩
  · cases m with
    | own => exact absurd rfl w
    | io => exact y rfl
    | lk => exact absurd rfl x
  · obtain ⟨n, o, h1, h2, h3, h4⟩ := R.ow j m v h
    by_cases hq : ∃ (i : Nat) (v' : PV), as[i]? = some (PA.s j) ∧ ms[i]? = some true ∧ fin[i]? = some (PSlot.ow .io v')
    · obtain ⟨i, v', q1, q2, q3⟩ := hq
      exact ⟨v', updA_at G.dist q1 q2 q3 h⟩
    · exact ⟨v, by rw [updA_keep fun i v' h1 h2 h3 => hq ⟨i, v', h1, h2, h3⟩]; exact h⟩
  · by_cases hq : ∃ (i : Nat) (v' : PV), as[i]? = some (PA.s j) ∧ ms[i]? = some true ∧ fin[i]? = some (PSlot.ow .io v')
    · obtain ⟨i, v', q1, q2, q3⟩ := hq
      obtain ⟨u, h4⟩ := a.oi i _ v' (by decide) q3
      obtain ⟨j', m0, d, z1, z2, z3, z4, z5, z6⟩ := G.ow h4
      rw [q1] at z1; cases z1
      rw [updA_at G.dist q1 q2 q3 z2] at h
      cases h
      exact ⟨u, z2⟩
    · rw [updA_keep fun i v' h1 h2 h3 => hq ⟨i, v', h1, h2, h3⟩] at h
      exact ⟨v, h⟩
  · rcases hbd n (h.elim (fun z => .inl (.inl z)) .inr) with (z | z) | z
    · exact .inl z
    · exact z.elim
    · exact .inr z
theorem Ok.mapE {α β : Type} {R' : β → Store → α → Prop} {X X' : XR} {g : PEnv → PEnv} {o : Out β} (k : ∀ x fs M ns vs e, X x fs M ns vs e → X' x fs M ns vs (g e)) : ∀ {c : C α}, Ok R' X o c → Ok R' X' o (c.mapE g)
  | .ret a, h => by obtain ⟨b, M', rfl, h2⟩ := h; exact ⟨b, M', rfl, h2⟩
  | .exc x ns vs e, h => by obtain ⟨fs, M', rfl, h2⟩ := h; exact ⟨fs, M', rfl, k _ _ _ _ _ _ h2⟩
  | .draw n f, h => by obtain ⟨i, hi, h⟩ := h; exact ⟨i, hi, Ok.mapE (by assumption) h⟩
  | .bad, _ => trivial
theorem se_call {T : Tab} {U : PTab} (hT : TSnd sc T U) {i : Nat} {g : EvL} {q : POps} {ms : List Bool} (h : SL sc g q) : SE sc (eCall T i g) (pCall U i q ms) := .mk fun Av M eta e R => by
  unfold eCall pCall
  refine h.then_ (Rs.refl R) fun ds M1 as e1 a _ har => ?_
  simp only
  by_cases hd : distA as = true
  · rw [if_pos hd]
    cases hsl : argSl e1 as ms with
    | none => trivial
    | some sl =>
      simp only
      have G : Giv sc Av M1 eta e1 as ms ds sl := ⟨hd, hsl, har⟩
      obtain ⟨RG, hno, hg⟩ := G.rel a.rel
      have call := hT i _ M1 ds sl RG hno
      have e3 : T i ds M1 = (T i ds M1).bind fun d M' => .ok d M' := by cases T i ds M1 <;> rfl
      rw [e3]
      refine Ok.bind (Ok.mapE (X' := XE sc Av M eta e) (g := updA e1 as ms) (fun x fs M' ns vs fin hx => ?_) call) (fun d M' r hr => ?_) fun _ _ _ _ _ _ z => z
      · obtain ⟨b, h1, h2⟩ := hx
        obtain ⟨b2, hb⟩ := G.rs a.rel b
        exact ⟨a.trans b2, h1, IsL.mono (fun n o x y => ⟨fun z => x (hb n z), y⟩) _ _ h2⟩
      · obtain ⟨w, v, fin⟩ := r
        obtain ⟨b, hv⟩ := hr
        simp only at b hv ⊢
        obtain ⟨b2, hb⟩ := G.rs a.rel b
        refine ⟨d, M', rfl, a.trans b2, ?_⟩
        cases w with
        | false => exact VR.sh (Is.mono (fun n o x y => ⟨fun z => x (hb n z), y⟩) _ _ hv.is)
        | true =>
          unfold VR at hv ⊢
          simp only [if_true] at hv ⊢
          obtain ⟨n, o, rfl, h1, h2, h3, h4, h5⟩ := hv
          obtain ⟨RB, hfo, hbd⟩ := G.back (X := fun j => j = n) a.rel b (fun j z => by rw [z]; exact h1) h4
          have hav : ¬ Av n := fun z => by have := a.rel.av n z; omega
          exact ⟨n, o, rfl, Nat.le_trans a.le h1, hav, h3, RB, Cel.mono (fun j u x y => ⟨fun z => x (hbd j z), y⟩) h5⟩
  · rw [if_neg hd]; trivial
end
end Ev
namespace Ev
open PySem L2
@[irreducible] def WFU : Nat := 1000000
theorem WFU_le : WFU ≤ 20000000 := by unfold WFU; decide
def LawT : PR → Prop
  | .rt _ (.bl true) _ => True
  | _ => False
theorem OkS.all {sc : SC} {Av : NP} {M : Store} {eta : Env} {e : PEnv} {o : OutS} {Q : PR → Prop} : ∀ {c : C PR}, OkS sc Av M eta e o c → c.All Q → ∃ r, Q r ∧ OkS sc Av M eta e o (.ret r)
  | .ret a, h, q => ⟨a, q, h⟩
  | .exc x ns vs e', h, q => q.elim
  | .draw n f, h, q => by obtain ⟨i, hi, h⟩ := h; exact OkS.all h (q i hi)
  | .bad, _, q => q.elim
theorem law_rt {sc : SC} {Av : NP} {M M0 : Store} {eta : Env} {e : PEnv} {o : OutS} {c : C PR} (h : OkS sc Av M eta e o c) (q : c.All LawT) : ∃ M', finS M0 o = .ok (.bl true) M' := by
  obtain ⟨r, h1, h2⟩ := h.all q
  cases r with
  | nx _ => exact h1.elim
  | bk _ => exact h1.elim
  | ct _ => exact h1.elim
  | rt w v e' =>
    obtain ⟨d, M', eta', rfl, a, hv⟩ := h2
    cases v <;> try exact h1.elim
    rename_i b
    cases b with
    | false => exact h1.elim
    | true =>
      have hd : d = .bl true := by
        unfold RV at hv
        cases w with
        | false => simpa [Is] using hv
        | true =>
          simp only [if_true, Cel] at hv
          obtain ⟨_, _, _, _, _, _, _, h⟩ := hv
          exact h.elim
      subst hd
      show ∃ M1, gc M0 (.bl true) M' = .ok (.bl true) M1
      unfold gc
      split
      · exact ⟨_, rfl⟩
      · exact ⟨_, rfl⟩
theorem law_plain {Q : List Fn} {i k : Nat} {F : Fn} {p : PStm} {env : PEnv} (hF : Q[i]? = some F) (hp : F.np = 1) (hs : SS none (F.body (tabOf Q k)) p) (he : env = List.replicate (1 + (F.nn - 1)) .un) (h : (p env).All LawT) (ns : List Int) (hn : ns.length ≤ 63) :
    ∃ M, tabOf Q (k + 1) i [.ref 0] [.frz (ns.map D.int)] = .ok (.bl true) M := by
  rw [tab_at hF (by rw [hp]; rfl), hp]
  subst he
  have R : Rel none (fun _ => False) [.frz (ns.map D.int)] ([some (.ref 0)] ++ List.replicate (F.nn - 1) none) (List.replicate (1 + (F.nn - 1)) .un) := by
    have hun : ∀ (j : Nat) (x : PSlot), (List.replicate (1 + (F.nn - 1)) PSlot.un)[j]? = some x → x = .un := fun j x h => (List.mem_replicate.mp (List.mem_of_getElem? h)).2
    refine ⟨by simp; omega, fun n o h => ?_, (fun s c h => by cases h), (fun n h => by obtain ⟨s, c, h, _⟩ := h; cases h), fun n h => h.elim, (fun j v h => by cases hun j _ h), (fun j m v h => by cases hun j _ h), (fun j l m v m' v' n h => by cases hun j _ h)⟩
    match n, h with
    | 0, h => simp at h; subst h; exact lowL_ints _ _
    | n + 1, h => simp at h
  exact law_rt (hs _ _ _ _ R) h
theorem ptab_at {P : List PEnt} {k i nn np : Nat} {b : PTab → PStm} {sl : List PSlot} (h : P[i]? = some (.fn nn np b)) (hl : sl.length = np) : ptab P (k + 1) i sl = finP np (b (ptab P k) (sl ++ List.replicate (nn - np) PSlot.un)) := by
  show (match P[i]? with
    | some (.fn nn np b) => if sl.length = np then finP np (b (ptab P k) (sl ++ List.replicate (nn - np) PSlot.un)) else .bad
    | some .pick => pPick sl
    | none => .bad) = _
  rw [h]
  simp only
  rw [if_pos hl]
section
variable {α β : Type}
theorem All.ret {Q : α → Prop} {a : α} (h : Q a) : (C.ret a).All Q := h
theorem All.imp {Q Q' : α → Prop} (k : ∀ a, Q a → Q' a) : ∀ {c : C α}, c.All Q → c.All Q'
  | .ret a, h => k a h
  | .exc _ _ _ _, h => h
  | .draw n f, h => fun i hi => All.imp k (h i hi)
  | .bad, h => h
theorem All.bind {Q : α → Prop} {Q' : β → Prop} {g : α → C β} : ∀ {c : C α}, c.All Q → (∀ a, Q a → (g a).All Q') → (c.bind g).All Q'
  | .ret a, h, k => k a h
  | .exc _ _ _ _, h, _ => h
  | .draw n f, h, k => fun i hi => All.bind (h i hi) k
  | .bad, h, _ => h
theorem All.noX {Q : α → Prop} : ∀ {c : C α}, c.All Q → c.noX.All Q
  | .ret a, h => h
  | .exc _ _ _ _, h => h
  | .draw n f, h => fun i hi => All.noX (h i hi)
  | .bad, h => h
theorem All.mapE {Q : α → Prop} {g : PEnv → PEnv} : ∀ {c : C α}, c.All Q → (c.mapE g).All Q
  | .ret a, h => h
  | .exc _ _ _ _, h => h
  | .draw n f, h => fun i hi => All.mapE (h i hi)
  | .bad, h => h
end
end Ev
namespace Ev
open PySem L2
def pfld (f : Str) : List Str → List PV → Option PV
  | n :: ns, v :: vs => if n = f then some v else pfld f ns vs
  | _, _ => none
def pput (f : Str) (x : PV) : List Str → List PV → List Str × List PV
  | n :: ns, v :: vs => if n = f then (n :: ns, x :: vs) else (n :: (pput f x ns vs).1, v :: (pput f x ns vs).2)
  | _, _ => ([f], [x])
section
variable {sc : SC} {M M1 M' : Store} {B : NP} {f : Str} {Av : NP} {eta eta' : Env} {e e1 e' : PEnv}
theorem pfld_is : ∀ {fs : List (Str × D)} {vs : List PV}, IsL sc M B vs (fs.map (·.2)) → ∀ v, pfld f (fs.map (·.1)) vs = some v → ∃ d, fldOf f fs = some d ∧ Is sc M B v d
  | [], vs, h, v, q => by simp [pfld] at q
  | (x, d) :: r, [], h, v, q => by simp [pfld] at q
  | (x, d) :: r, u :: us, h, v, q => by
    simp only [IsL, List.map_cons] at h
    obtain ⟨d2, es, e1, h2, h3⟩ := h
    cases e1
    simp only [List.map_cons, pfld] at q
    unfold fldOf
    by_cases hx : x = f
    · rw [if_pos hx] at q ⊢; cases q
      exact ⟨d, rfl, h2⟩
    · rw [if_neg hx] at q ⊢
      exact pfld_is h3 v q
theorem fldOf_none : ∀ {fs : List (Str × D)}, (fs.map (·.1)).contains f = false → fldOf f fs = none
  | [], h => rfl
  | (x, d) :: r, h => by
    simp only [List.map_cons, List.contains_cons, Bool.or_eq_false_iff, beq_eq_false_iff_ne] at h
    unfold fldOf
    rw [if_neg (Ne.symm h.1)]
    exact fldOf_none h.2
theorem pput_is {x : PV} {d : D} (hx : Is sc M B x d) : ∀ {fs : List (Str × D)} {vs : List PV}, IsL sc M B vs (fs.map (·.2)) → (putFD f d fs).map (·.1) = (pput f x (fs.map (·.1)) vs).1 ∧ IsL sc M B (pput f x (fs.map (·.1)) vs).2 ((putFD f d fs).map (·.2))
  | [], vs, h => ⟨by cases vs <;> rfl, by cases vs <;> exact IsL.cons hx IsL.nil⟩
  | (n, y) :: r, [], h => by simp only [IsL, List.map_cons] at h; cases h
  | (n, y) :: r, u :: us, h => by
    simp only [IsL, List.map_cons] at h
    obtain ⟨d2, es, e1, h2, h3⟩ := h
    cases e1
    obtain ⟨q1, q2⟩ := pput_is hx h3
    unfold putFD
    simp only [List.map_cons, pput]
    by_cases hn : n = f
    · rw [if_pos hn, if_pos hn]
      exact ⟨rfl, IsL.cons hx h3⟩
    · rw [if_neg hn, if_neg hn]
      exact ⟨by simp only [List.map_cons, q1], IsL.cons h2 q2⟩
theorem isB_ins {c : Nat} {ns : List Str} {vs : List PV} {d : D} (h : IsB sc M B (.ins c ns vs) d) : ∃ n fs, d = .ref n ∧ M[n]? = some (.ins c fs) ∧ fs.map (·.1) = ns ∧ IsL sc M B vs (fs.map (·.2)) := by
  rcases h with h | ⟨n, o, h1, h2, h⟩
  · simp only [Is] at h
    obtain ⟨n, ds, h1, _, h2⟩ := h
    exact ⟨n, ds, h1, h2⟩
  · simp only [Cel] at h
    obtain ⟨ds, rfl, h3⟩ := h
    exact ⟨n, ds, h1, h2, h3⟩
def opFld (c : Nat) (f : Str) : POp := fun vs => match vs with
  | [.ins c' ns vs] => if c' = c then (pfld f ns vs).map fun v => (false, v) else none
  | _ => none
theorem op_fld {c : Nat} : OpSnd sc (F1 (fldD c f)) (opFld c f) := fun M B vs ds w r hs h q => by
  unfold opFld at q
  split at q
  · rename_i c' ns us
    split at q
    · rename_i hc
      subst hc
      cases hp : pfld f ns us with
      | none => rw [hp] at q; cases q
      | some v =>
        rw [hp] at q; cases q
        obtain ⟨d, rfl, h1⟩ := bl_one h
        obtain ⟨n, fs, rfl, h2, rfl, h4⟩ := isB_ins h1
        obtain ⟨d, h5, h6⟩ := pfld_is h4 _ hp
        simp only [Bool.false_eq_true, if_false]
        exact ⟨d, by simp only [F1, fldD, h2, h5, if_true], h6⟩
    · cases q
  · cases q
theorem se_fld {c : Nat} {g : EvE} {q : POps} (h : SL sc (lCons g lNil) q) : SE sc (eFld c f g) (pOp (opFld c f) q) := se_un op_fld h
def setFP (c : Nat) (f : Str) (v x : PV) : Option PV := match v with
  | .ins c' ns vs => if c' = c ∧ ns.length < 1000 then some (.ins c (pput f x ns vs).1 (pput f x ns vs).2) else none
  | _ => none
theorem setFP_is {n c : Nat} {o : MO} {v x u : PV} {dx : D} (hn : M[n]? = some o) (hc : Cel sc M B v o) (hx : Is sc M B x dx) (q : setFP c f v x = some u) : ∃ o', setFD c f (.ref n) dx M = .ok () (M.set n o') ∧ Cel sc M B u o' := by
  unfold setFP at q
  split at q
  · rename_i c' ns vs
    split at q
    · rename_i hcc
      obtain ⟨rfl, hl⟩ := hcc
      cases q
      simp only [Cel] at hc
      obtain ⟨fs, rfl, rfl, h2⟩ := hc
      obtain ⟨q1, q2⟩ := pput_is (f := f) hx h2
      rw [List.length_map] at hl
      refine ⟨.ins c' (putFD f dx fs), by simp only [setFD, hn]; exact if_pos ⟨trivial, hl⟩, ?_⟩
      simp only [Cel]
      exact ⟨_, rfl, q1, q2⟩
    · cases q
  · cases q
/-- x.f = .. for a slot's own object -/
def pFldS (c : Nat) (f : Str) (i : Nat) (p : PExp) : PStm := fun e => (p e).bind fun r => match owW r.2.2[i]? with
  | some (m, v) => (match setFP c f v r.2.1 with
    | some u => .ret (.nx (r.2.2.set i (.ow m u)))
    | none => .bad)
  | none => .bad
theorem ss_fldS {c i : Nat} {g : EvE} {p : PExp} (hf : SE sc g p) : SS sc (sFldS c f (eVar i) g) (pFldS c f i p) := .mk fun Av M eta e R => by
  unfold sFldS pFldS
  have e1 : OutS.bindE ((g eta M).bind fun v M1 => (eVar i eta M1).bind fun x M2 => setFD c f x v M2) eta (fun _ M3 => .nx eta M3) =
      OutS.bindE (g eta M) eta fun v M1 => OutS.bindE (eVar i eta M1) eta fun x M2 => OutS.bindE (setFD c f x v M2) eta fun _ M3 => .nx eta M3 := by
    cases g eta M with
    | ok v M1 =>
      simp only [Out.bind, OutS.bindE]
      cases eVar i eta M1 <;> rfl
    | exc _ _ _ => rfl
    | bad => rfl
  rw [e1]
  refine hf.thenS R fun x M1 w1 v1 e1 a1 hv1 => ?_
  simp only
  cases hw : owW e1[i]? with
  | none => trivial
  | some mv =>
    obtain ⟨m, v⟩ := mv
    obtain ⟨hs, hm⟩ := owW_ok hw
    obtain ⟨n, o, g1, g2, g3, g4⟩ := a1.rel.ow i _ _ hs
    have e2 : eVar i eta M1 = .ok (.ref n) M1 := by unfold eVar; rw [g1]
    rw [e2]
    simp only [OutS.bindE]
    cases hp : setFP c f v v1 with
    | none => trivial
    | some u =>
      obtain ⟨o2, z1, z2⟩ := setFP_is g3 g4 hv1.is hp
      rw [z1]
      exact ⟨_, _, rfl, a1.put hs hm g1 z2⟩
def insP (c : Nat) (m : Str) : PV → Bool
  | .ins c' ns _ => decide (c' = c) && !ns.contains m
  | _ => false
/-- an object that has the method -/
def eChk (c : Nat) (m : Str) (o : EvE) : EvE := fun eta M => (o eta M).bind fun x M1 => if isIns c m x M1 = true then .ok x M1 else .bad
def pChk (c : Nat) (m : Str) (p : PExp) : PExp := fun e => (p e).bind fun r => if insP c m r.2.1 = true then .ret r else .bad
theorem se_chk {c : Nat} {m : Str} {o : EvE} {p : PExp} (h : SE sc o p) : SE sc (eChk c m o) (pChk c m p) := .mk fun Av M eta e R => by
  unfold eChk pChk
  refine h.then_ (Rs.refl R) fun d M1 w v e1 a _ hv => ?_
  simp only
  by_cases hi : insP c m v = true
  · rw [if_pos hi]
    have hd : isIns c m d M1 = true := by
      unfold insP at hi
      split at hi
      · rename_i c' ns us
        simp only [Bool.and_eq_true, decide_eq_true_eq, Bool.not_eq_true'] at hi
        obtain ⟨rfl, hn⟩ := hi
        obtain ⟨n, fs, rfl, h2, rfl, h4⟩ := isB_ins (.inl hv.is)
        simp only [isIns, h2, fldOf_none hn, decide_true, Option.isNone_none, Bool.and_self]
      · cases hi
    rw [if_pos hd]
    exact ⟨d, M1, rfl, a, hv⟩
  · rw [if_neg hi]; trivial
theorem meth_eq {T : Tab} {i c : Nat} {m : Str} {o : EvE} {g : EvL} (eta : Env) (M : Store) : eMeth T i c m o g eta M = eCall T i (lCons (eChk c m o) g) eta M := by
  unfold eMeth eCall lCons eChk
  cases o eta M with
  | ok x M1 =>
    simp only [Out.bind]
    by_cases h : isIns c m x M1 = true
    · rw [if_pos h, if_pos h]
      simp only
      cases g eta M1 <;> rfl
    · rw [if_neg h, if_neg h]
  | exc _ _ _ => rfl
  | bad => rfl
def pMeth (U : PTab) (i c : Nat) (m : Str) (p : PExp) (q : POps) (ms : List Bool) : PExp := pCall U i (.ex (pChk c m p) :: q) (false :: ms)
theorem se_meth {T : Tab} {U : PTab} (hT : TSnd sc T U) {i c : Nat} {m : Str} {o : EvE} {p : PExp} {g : EvL} {q : POps} {ms : List Bool} (ho : SE sc o p) (h : SL sc g q) : SE sc (eMeth T i c m o g) (pMeth U i c m p q ms) :=
  (se_call hT (sl_ex (se_chk ho) h)).congr fun eta M => meth_eq eta M
def pNew (c : Nat) : PExp := fun e => .ret (true, .ins c [] [], e)
theorem se_newI {c : Nat} : SE sc (eNew c) (pNew c) := .mk fun Av M eta e R => by
  have hc : Cel sc M (Bd Av eta e) (.ins c [] []) (.ins c []) := by simp only [Cel]; exact ⟨[], rfl, rfl, IsL.nil⟩
  exact ⟨_, _, rfl, (Rs.refl R).grow (MO.low_le (Nat.le_succ _) _ (hc.low R.ins)), VR.new R (Nat.le_refl _) hc⟩
def pInit (p : PExp) : PStm := fun e => (p e).bind fun r => match r.2.1 with
  | .non => .ret (.nx r.2.2)
  | _ => .bad
theorem ss_init {f : EvE} {p : PExp} (h : SE sc f p) : SS sc (sInit f) (pInit p) := .mk fun Av M eta e R => by
  unfold sInit pInit
  refine h.thenS R fun d M1 w v e1 a hv => ?_
  cases v <;> try trivial
  have := hv.is
  simp only [Is] at this
  subst this
  exact ⟨_, _, rfl, a⟩
def pMk (U : PTab) (c ini np : Nat) (al : POps) (ms : List Bool) : PStm := pSeq (pSet np (pNew c)) (pSeq (pInit (pCall U ini al (true :: ms))) (pRetV np))
theorem ss_mk {T : Tab} {U : PTab} (hT : TSnd sc T U) {c ini np : Nat} {al : EvL} {pl : POps} {ms : List Bool} (h : SL sc al pl) : SS sc (sMk T c ini np al) (pMk U c ini np pl ms) :=
  ss_seq (ss_set se_newI) (ss_seq (ss_init (se_call hT h)) ss_retV)
end
def strsP (txt : List Str) : PV := .tup (txt.map PV.str)
def opInC (neg : Bool) (txt : List Str) : POp := fun vs => match vs with
  | [v] => if txt.length ≤ 100 then opIn neg [v, strsP txt] else none
  | _ => none
section
variable {sc : SC} {M M1 M' : Store} {B : NP} {Av : NP} {eta eta' : Env} {e e1 e' : PEnv}
theorem isL_strs : ∀ txt : List Str, IsL sc M B (txt.map PV.str) (txt.map D.str)
  | [] => IsL.nil
  | x :: r => IsL.cons (by simp [Is]) (isL_strs r)
theorem dIn_kt (neg : Bool) (x : D) (txt : List Str) (M : Store) : dIn neg x (ktS txt) M = dIn neg x (.tup (txt.map D.str)) M := by
  have hp : ∀ l : List Str, ∃ ps, pyDs (l.map D.str) = some ps := fun l => by
    induction l with
    | nil => exact ⟨[], rfl⟩
    | cons a r ih => obtain ⟨ps, h⟩ := ih; exact ⟨.str a :: ps, by simp only [List.map_cons, pyDs, pyD, h]⟩
  obtain ⟨ps, hp⟩ := hp txt
  have e1 : toPy M 6 (ktS txt) = some (.tuple ps) := by simp only [toPy, ktS, pyD, hp]; rfl
  have e2 : toPy M 6 (.tup (txt.map D.str)) = some (.tuple ps) := by simp only [toPy, pyD, hp]; rfl
  show (match toPy M 6 x, toPy M 6 (ktS txt) with
    | some d, some (.tuple ds) => if d.canLay0 = true ∧ PyData.canLayAll0 ds = true ∧ min (PyData.depthAll ds) d.depth ≤ 150 then Out.ok (D.bl (if neg then !(ds.any fun z => PyData.eqv z d) else (ds.any fun z => PyData.eqv z d))) M else .bad
    | _, _ => .bad) = (match toPy M 6 x, toPy M 6 (.tup (txt.map D.str)) with
    | some d, some (.tuple ds) => if d.canLay0 = true ∧ PyData.canLayAll0 ds = true ∧ min (PyData.depthAll ds) d.depth ≤ 150 then Out.ok (D.bl (if neg then !(ds.any fun z => PyData.eqv z d) else (ds.any fun z => PyData.eqv z d))) M else .bad
    | _, _ => .bad)
  rw [e1, e2]
theorem op_inC {neg : Bool} {txt : List Str} : OpSnd sc (F1 fun x M => dIn neg x (ktS txt) M) (opInC neg txt) := fun M B vs ds w r hs h q => by
  unfold opInC at q
  split at q
  · rename_i v
    split at q
    · rename_i hl
      obtain ⟨d, rfl, h1⟩ := bl_one h
      have hB : IsBL sc M B [v, strsP txt] [d, .tup (txt.map D.str)] := by
        simp only [IsBL]
        exact ⟨d, _, rfl, h1, _, [], rfl, .inl (by simp only [strsP, Is]; exact ⟨_, rfl, isL_strs txt, by rw [List.length_map]; exact Nat.le_trans hl (by decide)⟩), rfl⟩
      have := snd_in neg M B _ _ w r hs hB q
      simp only [F1, dIn_kt]
      exact this
    · cases q
  · cases q
theorem se_inC {neg : Bool} {txt : List Str} {g : EvE} {q : POps} (h : SL sc (lCons g lNil) q) : SE sc (eBin (dIn neg) g (eC (ktS txt))) (pOp (opInC neg txt) q) :=
  (se_un (f := fun x M => dIn neg x (ktS txt) M) op_inC h).congr fun eta M => rfl
def RP (sc : SC) (Av : NP) (M : Store) (eta : Env) (e : PEnv) (ks : List Str) : List (D × D) → Store → List PV × PEnv → Prop := fun ps M' s => Rs sc Av M eta e M' eta s.2 ∧ ps.map (·.1) = ks.map D.str ∧ IsL sc M' (Bd Av eta s.2) s.1 (ps.map (·.2))
end
end Ev
namespace Ev
open PySem L2
section
variable {sc : SC} {Av : NP} {M M1 M2 M3 : Store} {eta : Env} {e e2 e3 : PEnv}
theorem fom_push {P : Mode → Prop} {x : Option D} {s : PSlot} {k : Nat} (hl : eta.length = e.length) : FoM P (eta ++ [x]) (e ++ [s]) k → FoM P eta e k ∨ ∃ m v, s = .ow m v ∧ x = some (.ref k) ∧ P m := fun ⟨i, m, v, h0, h1, h2⟩ => by
  by_cases hi : i < e.length
  · rw [List.getElem?_append_left hi] at h1
    rw [List.getElem?_append_left (by omega)] at h2
    exact .inl ⟨i, m, v, h0, h1, h2⟩
  · have hi2 : i = e.length := by
      have := (List.getElem?_eq_some_iff.mp h1).1
      simp at this; omega
    subst hi2
    rw [List.getElem?_append_right (Nat.le_refl _)] at h1
    rw [← hl, List.getElem?_append_right (Nat.le_refl _)] at h2
    simp at h1 h2
    exact .inr ⟨m, v, h1, h2, h0⟩
theorem fom_in {P : Mode → Prop} {x : Option D} {s : PSlot} {k : Nat} (hl : eta.length = e.length) (h : FoM P eta e k) : FoM P (eta ++ [x]) (e ++ [s]) k := by
  obtain ⟨i, m, v, h0, h1, h2⟩ := h
  have hi := (List.getElem?_eq_some_iff.mp h1).1
  exact ⟨i, m, v, h0, by rw [List.getElem?_append_left hi]; exact h1, by rw [List.getElem?_append_left (by omega)]; exact h2⟩
theorem Rel.push {n : Nat} {o : MO} {v : PV} (R : Rel sc (fun j => Av j ∨ j = n) M eta e) (hn : ¬ Av n) (hs : ∀ k, isSrc sc k → Av k) (ho : M[n]? = some o) (hc : Cel sc M (Bd (fun j => Av j ∨ j = n) eta e) v o) :
    Rel sc Av M (eta ++ [some (.ref n)]) (e ++ [.ow .own v]) := by
  have hl := R.len
  have hbd : ∀ k, Bd Av (eta ++ [some (.ref n)]) (e ++ [.ow .own v]) k → Bd (fun j => Av j ∨ j = n) eta e k := fun k z => by
    rcases z with z | z
    · exact .inl (.inl z)
    · rcases fom_push hl z with z | ⟨m, u, _, z, _⟩
      · exact .inr z
      · cases z; exact .inl (.inr rfl)
  have key : ∀ (k : Nat) (u : MO), ¬ Bd (fun j => Av j ∨ j = n) eta e k → M[k]? = some u → ¬ Bd Av (eta ++ [some (.ref n)]) (e ++ [.ow .own v]) k ∧ M[k]? = some u := fun k u a b => ⟨fun z => a (hbd k z), b⟩
  have sp : ∀ (i : Nat) (s : PSlot), (e ++ [PSlot.ow .own v])[i]? = some s → (i < e.length ∧ e[i]? = some s ∧ (eta ++ [some (.ref n)])[i]? = eta[i]?) ∨ (i = e.length ∧ s = .ow .own v ∧ (eta ++ [some (D.ref n)])[i]? = some (some (.ref n))) := fun i s h => by
    by_cases hi : i < e.length
    · rw [List.getElem?_append_left hi] at h
      exact .inl ⟨hi, h, List.getElem?_append_left (by omega)⟩
    · have hi2 : i = e.length := by
        have := (List.getElem?_eq_some_iff.mp h).1
        simp at this; omega
      subst hi2
      rw [List.getElem?_append_right (Nat.le_refl _)] at h
      simp at h
      exact .inr ⟨rfl, h.symm, by rw [← hl, List.getElem?_append_right (Nat.le_refl _)]; simp⟩
  refine ⟨by simp [hl], R.wf, R.src, hs, fun k h => R.av k (.inl h), fun i u h => ?_, fun i m u h => ?_, fun i j m1 v1 m2 v2 k a b c d => ?_⟩
  · rcases sp i _ h with ⟨h1, h2, h3⟩ | ⟨h1, h2, h3⟩
    · obtain ⟨d, g1, g2⟩ := R.sh i u h2
      exact ⟨d, by rw [h3]; exact g1, Is.mono key _ _ g2⟩
    · cases h2
  · rcases sp i _ h with ⟨h1, h2, h3⟩ | ⟨h1, h2, h3⟩
    · obtain ⟨k, o', g1, g2, g3, g4⟩ := R.ow i m u h2
      exact ⟨k, o', by rw [h3]; exact g1, fun z => g2 (.inl z), g3, Cel.mono key g4⟩
    · cases h2
      exact ⟨n, o, h3, hn, ho, Cel.mono key hc⟩
  · rcases sp i _ a with ⟨a1, a2, a3⟩ | ⟨a1, a2, a3⟩ <;> rcases sp j _ b with ⟨b1, b2, b3⟩ | ⟨b1, b2, b3⟩
    · rw [a3] at c; rw [b3] at d
      exact R.dj i j _ _ _ _ k a2 b2 c d
    · rw [a3] at c; rw [b3] at d; cases d
      obtain ⟨k', o', g1, g2, _⟩ := R.ow i _ _ a2
      rw [c] at g1; cases g1
      exact absurd (.inr rfl) g2
    · rw [a3] at c; rw [b3] at d; cases c
      obtain ⟨k', o', g1, g2, _⟩ := R.ow j _ _ b2
      rw [d] at g1; cases g1
      exact absurd (.inr rfl) g2
    · omega
theorem Rel.pop {Av' : NP} {x : Option D} {s : PSlot} (R : Rel sc Av' M (eta ++ [x]) (e ++ [s])) (hl : eta.length = e.length) : Rel sc Av' M eta e := by
  have key : ∀ (k : Nat) (u : MO), ¬ Bd Av' (eta ++ [x]) (e ++ [s]) k → M[k]? = some u → ¬ Bd Av' eta e k ∧ M[k]? = some u := fun k u a b => ⟨fun z => a (z.elim .inl fun q => .inr (fom_in hl q)), b⟩
  have up : ∀ (i : Nat) (q : PSlot), e[i]? = some q → (e ++ [s])[i]? = some q ∧ (eta ++ [x])[i]? = eta[i]? := fun i q h => by
    have hi := (List.getElem?_eq_some_iff.mp h).1
    exact ⟨by rw [List.getElem?_append_left hi]; exact h, List.getElem?_append_left (by omega)⟩
  refine ⟨hl, R.wf, R.src, R.asrc, R.av, fun i u h => ?_, fun i m u h => ?_, fun i j m1 v1 m2 v2 k a b c d => ?_⟩
  · obtain ⟨h1, h2⟩ := up i _ h
    obtain ⟨d, g1, g2⟩ := R.sh i u h1
    exact ⟨d, by rw [← h2]; exact g1, Is.mono key _ _ g2⟩
  · obtain ⟨h1, h2⟩ := up i _ h
    obtain ⟨k, o', g1, g2, g3, g4⟩ := R.ow i m u h1
    exact ⟨k, o', by rw [← h2]; exact g1, g2, g3, Cel.mono key g4⟩
  · obtain ⟨a1, a2⟩ := up i _ a
    obtain ⟨b1, b2⟩ := up j _ b
    exact R.dj i j _ _ _ _ k a1 b1 (by rw [a2]; exact c) (by rw [b2]; exact d)
theorem Rs.pop {n : Nat} {s2 s3 : PSlot} (a : Rs sc Av M eta e M2 eta e2) (hn : M.length ≤ n) (b : Rs sc Av M2 (eta ++ [some (.ref n)]) (e2 ++ [s2]) M3 (eta ++ [some (.ref n)]) (e3 ++ [s3])) (hl : e3.length = e2.length) : Rs sc Av M eta e M3 eta e3 := by
  have l2 := a.rel.len
  refine ⟨b.rel.pop (by omega), fun P k h => ?_, Nat.le_trans a.le b.le, fun k h1 h2 h3 => ?_, fun i m v hm h => ?_, fun i m v hm h => ?_⟩
  · rcases b.fo P k (fom_in (by omega) h) with z | z
    · rcases fom_push l2 z with z | ⟨_, _, _, z, _⟩
      · exact a.fo P k z
      · cases z; exact .inr hn
    · exact .inr (Nat.le_trans a.le z)
  · rw [b.fr k (Nat.lt_of_lt_of_le h1 a.le) (fun z => ?_) h3, a.fr k h1 h2 h3]
    rcases fom_push l2 z with z | ⟨_, _, _, z, _⟩
    · rcases a.fo _ k z with q | q
      · exact h2 q
      · omega
    · cases z; omega
  · obtain ⟨⟨v', g1⟩, _⟩ := a.io i m v hm h
    have hi := (List.getElem?_eq_some_iff.mp g1).1
    obtain ⟨⟨v'', g2⟩, _⟩ := b.io i m v' hm (by rw [List.getElem?_append_left hi]; exact g1)
    rw [List.getElem?_append_left (by omega)] at g2
    exact ⟨⟨v'', g2⟩, rfl⟩
  · have hi := (List.getElem?_eq_some_iff.mp h).1
    obtain ⟨v', g1⟩ := b.oi i m v hm (by rw [List.getElem?_append_left hi]; exact h)
    rw [List.getElem?_append_left (by omega)] at g1
    exact a.oi i m v' hm g1
end
/-- f(a, b): b a fresh thing that the def may write; it goes behind the call -/
def pCallF (U : PTab) (i : Nat) (p1 p2 : PExp) : PExp := fun e => (p1 e).bind fun r => (p2 r.2.2).bind fun s => if s.1 = true then ((U i [.sh r.2.1, .ow .io s.2.1]).mapE fun _ => s.2.2).bind fun t => .ret (t.1, t.2.1, s.2.2) else .bad
theorem set_last (l : List PSlot) (s x : PSlot) : (l ++ [s]).set l.length x = l ++ [x] := by
  induction l with
  | nil => rfl
  | cons a r ih => simp only [List.cons_append, List.length_cons, List.set_cons_succ, ih]
theorem updA_last {e : PEnv} {s : PSlot} {v : PV} (fin : List PSlot) : ∃ s3, updA (e ++ [s]) [.v v, .s e.length] [false, true] fin = e ++ [s3] := by
  have hg : (e ++ [s])[e.length]? = some s := by rw [List.getElem?_append_right (Nat.le_refl _)]; simp
  match fin with
  | [] => exact ⟨s, rfl⟩
  | [f] => exact ⟨s, rfl⟩
  | f :: g :: r =>
    have e0 : updA (e ++ [s]) [.v v, .s e.length] [false, true] (f :: g :: r) = upd1 (e ++ [s]) (.s e.length) true g := by
      simp only [updA]
      rfl
    rw [e0]
    cases g with
    | un => exact ⟨s, rfl⟩
    | sh _ => exact ⟨s, rfl⟩
    | ow m u =>
      cases m with
      | own => exact ⟨s, rfl⟩
      | lk => exact ⟨s, rfl⟩
      | io =>
        simp only [upd1, hg]
        cases s with
        | un => exact ⟨_, rfl⟩
        | sh _ => exact ⟨_, rfl⟩
        | ow m' u' => exact ⟨_, set_last e _ _⟩
theorem se_callF {sc : SC} {T : Tab} {U : PTab} (hT : TSnd sc T U) {i : Nat} {f1 f2 : EvE} {p1 p2 : PExp} (h1 : SE sc f1 p1) (h2 : SE sc f2 p2) : SE sc (eCall T i (lCons f1 (lCons f2 lNil))) (pCallF U i p1 p2) := .mk fun Av M eta e R => by
  have eq : eCall T i (lCons f1 (lCons f2 lNil)) eta M = (f1 eta M).bind fun x M1 => (f2 eta M1).bind fun y M2 => (T i [x, y] M2).bind fun d M' => .ok d M' := by
    have tid : ∀ (o : Out D), o = o.bind fun d M' => .ok d M' := fun o => by cases o <;> rfl
    unfold eCall lCons lNil
    cases f1 eta M with
    | ok x M1 =>
      simp only [Out.bind]
      cases f2 eta M1 with
      | ok y M2 => simp only [Out.bind]; exact tid _
      | exc _ _ _ => rfl
      | bad => rfl
    | exc _ _ _ => rfl
    | bad => rfl
  rw [eq]
  unfold pCallF
  refine h1.then_ (Rs.refl R) fun x M1 w1 v1 e1 a1 _ hv1 => ?_
  simp only
  refine Ok.bind (h2.go Av M1 eta e1 a1.rel) (fun y M2 s hs => ?_) (XE.mono a1)
  obtain ⟨w2, v2, e2⟩ := s
  obtain ⟨b, hv2⟩ := hs
  simp only at b hv2 ⊢
  cases w2 with
  | false => simp only [Bool.false_eq_true, if_false]; trivial
  | true =>
    simp only [if_true]
    unfold VR at hv2
    simp only [if_true] at hv2
    obtain ⟨n, o, rfl, g1, g2, g3, g4, g5⟩ := hv2
    have a2 := a1.trans b
    have RP := Rel.push g4 g2 a2.rel.asrc g3 g5
    have hl := a2.rel.len
    have hav : Is sc M2 (Bd Av (eta ++ [some (.ref n)]) (e2 ++ [.ow .own v2])) v1 x := Is.mono (fun k u q1 q2 => by
      obtain ⟨z1, z2⟩ := b.keep a1.rel k u q1 q2
      have hk := (List.getElem?_eq_some_iff.mp q2).1
      refine ⟨fun z => ?_, z2⟩
      rcases z with z | z
      · exact z1 (.inl z)
      · rcases fom_push hl z with z | ⟨_, _, _, z, _⟩
        · exact z1 (.inr z)
        · cases z; omega) _ _ hv1.is
    have G : Giv sc Av M2 (eta ++ [some (.ref n)]) (e2 ++ [.ow .own v2]) [.v v1, .s e2.length] [false, true] [x, .ref n] [.sh v1, .ow .io v2] := ⟨by simp [distA], by simp [argSl, argOf], by
      simp only [AR]
      exact ⟨x, _, rfl, hav, .ref n, _, rfl, by rw [← hl, List.getElem?_append_right (Nat.le_refl _)]; simp, rfl⟩⟩
    obtain ⟨RG, hno, hg⟩ := G.rel RP
    have call := hT i _ M2 [x, .ref n] [.sh v1, .ow .io v2] RG hno
    have hn : M.length ≤ n := Nat.le_trans a1.le g1
    refine Ok.bind (Ok.mapE (X' := XE sc Av M eta e) (g := fun _ => e2) (fun z fs M' ns vs fin hx => ?_) call) (fun d M' r hr => ?_) fun _ _ _ _ _ _ z => z
    · obtain ⟨c, c1, c2⟩ := hx
      obtain ⟨c3, hb⟩ := G.rs RP c
      obtain ⟨s3, es⟩ := updA_last (e := e2) (s := .ow .own v2) (v := v1) fin
      rw [es] at c3 hb
      exact ⟨Rs.pop a2 hn c3 rfl, c1, IsL.mono (fun k u q1 q2 => ⟨fun z => q1 (hb k (z.elim .inl fun q => .inr (fom_in hl q))), q2⟩) _ _ c2⟩
    · obtain ⟨w, v, fin⟩ := r
      obtain ⟨c, hv⟩ := hr
      simp only at c hv ⊢
      obtain ⟨c3, hb⟩ := G.rs RP c
      obtain ⟨s3, es⟩ := updA_last (e := e2) (s := .ow .own v2) (v := v1) fin
      have es' := es
      rw [es] at c3 hb
      have pop := Rs.pop a2 hn c3 rfl
      refine ⟨d, M', rfl, pop, ?_⟩
      cases w with
      | false => exact VR.sh (Is.mono (fun k u q1 q2 => ⟨fun z => q1 (hb k (z.elim .inl fun q => .inr (fom_in hl q))), q2⟩) _ _ hv.is)
      | true =>
        unfold VR at hv ⊢
        simp only [if_true] at hv ⊢
        obtain ⟨n', o', rfl, k1, k2, k3, k4, k5⟩ := hv
        obtain ⟨RB, hfo, hbd⟩ := G.back (X := fun j => j = n') RP c (fun j z => by rw [z]; exact k1) k4
        rw [es'] at RB hfo hbd
        have hav' : ¬ Av n' := fun z => by have := a2.rel.av n' z; omega
        exact ⟨n', o', rfl, Nat.le_trans a2.le k1, hav', k3, RB.pop hl, Cel.mono (fun j u q1 q2 => ⟨fun z => q1 (hbd j (z.elim .inl fun q => .inr (fom_in hl q))), q2⟩) k5⟩
end Ev
namespace Ev
open PySem L2
def opIsC (c : Nat) : POp := fun vs => match vs with
  | [.ins c' _ _] => if c' = c then some (false, .bl true) else none
  | _ => none
section
variable {sc : SC} {Av : NP} {M M1 M' : Store} {B : NP} {eta : Env} {e : PEnv}
theorem op_isC {c : Nat} : OpSnd sc (F1 (isCD c)) (opIsC c) := fun M B vs ds w r hs h q => by
  unfold opIsC at q
  split at q
  · rename_i c' ns us
    split at q
    · rename_i hc
      subst hc
      cases q
      obtain ⟨d, rfl, h1⟩ := bl_one h
      obtain ⟨n, fs, rfl, h2, rfl, h4⟩ := isB_ins h1
      simp only [Bool.false_eq_true, if_false]
      exact ⟨.bl true, by simp only [F1, isCD, insB, h2, decide_true, if_true], by simp [Is]⟩
    · cases q
  · cases q
theorem se_isC {c : Nat} {g : EvE} {q : POps} (h : SL sc (lCons g lNil) q) : SE sc (eIsC c g) (pOp (opIsC c) q) := se_un op_isC h
end
end Ev
namespace Ev
open PySem L2
section
variable {sc : SC}
def pP (p : Int × Int) : PV := .tup [.int p.1, .int p.2]
def ppair : PV → Option (Int × Int)
  | .tup [.int i, .int j] => some (i, j)
  | _ => none
def ppairs : List PV → Option (List (Int × Int))
  | [] => some []
  | v :: vs => match ppair v, ppairs vs with
    | some p, some ps => some (p :: ps)
    | _, _ => none
def sortK (ps : List (Int × Int)) : List (Int × Int) := ps.mergeSort (skLe id)
def opSortK : POp
  | [.lst vs] => (match ppairs vs with
    | some ps => if ps.length ≤ cap then some (true, .lst ((sortK ps).map pP)) else none
    | none => none)
  | _ => none
theorem ppair_is {M : Store} {B : NP} {v : PV} {d : D} {p : Int × Int} (h : Is sc M B v d) (e : ppair v = some p) : pairD d = some p := by
  unfold ppair at e
  split at e
  · rename_i i j
    cases e
    simp only [Is, IsL] at h
    obtain ⟨ds, rfl, ⟨d1, e1, rfl, rfl, d2, e2, rfl, rfl, rfl⟩, _⟩ := h
    rfl
  · cases e
theorem ppairs_is {M : Store} {B : NP} : ∀ {vs : List PV} {ds : List D} {ps : List (Int × Int)}, IsL sc M B vs ds → ppairs vs = some ps → pairsD ds = some ps
  | [], ds, ps, h, e => by
    simp only [IsL] at h
    simp only [ppairs, Option.some.injEq] at e
    subst h; subst e; rfl
  | v :: vs, ds, ps, h, e => by
    simp only [IsL] at h
    obtain ⟨d, es, rfl, h1, h2⟩ := h
    simp only [ppairs] at e
    split at e
    · rename_i p qs e1 e2
      cases e
      simp only [pairsD, ppair_is h1 e1, ppairs_is h2 e2]
    · cases e
theorem isL_pairs {M : Store} {B : NP} : ∀ ps : List (Int × Int), IsL sc M B (ps.map pP) (ps.map pD)
  | [] => IsL.nil
  | p :: ps => IsL.cons (by simp only [pP, pD, Is, IsL]; exact ⟨_, rfl, ⟨_, _, rfl, rfl, _, _, rfl, rfl, rfl⟩, by simp [cap]⟩) (isL_pairs ps)
theorem snd_sortK : OpSnd sc bSortK opSortK := fun M B vs ds w r hs h e => by
  unfold opSortK at e
  split at e
  · rename_i vs
    cases hn : ppairs vs with
    | none => rw [hn] at e; cases e
    | some ps =>
      rw [hn] at e
      simp only at e
      split at e
      · rename_i hc
        cases e
        obtain ⟨x, rfl, h1⟩ := bl_one h
        obtain ⟨n, as, rfl, q0, g1, g2⟩ := isB_lst h1
        exact ⟨.lst ((ps.mergeSort (skLe id)).map pD), by simp only [bSortK, liveAt_of q0, ppairs_is g1 hn], by
          simp only [Cel]
          exact ⟨_, rfl, isL_pairs _, by rw [List.length_map]; unfold sortK; rw [List.length_mergeSort]; exact hc⟩⟩
      · cases e
  · cases e
theorem ppairs_map : ∀ ps : List (Int × Int), ppairs (ps.map pP) = some ps
  | [] => rfl
  | p :: ps => by simp only [List.map_cons, ppairs, ppairs_map ps, pP, ppair]
theorem opSortK_of {ps : List (Int × Int)} (h : ps.length ≤ cap) : opSortK [.lst (ps.map pP)] = some (true, .lst ((sortK ps).map pP)) := by
  simp only [opSortK, ppairs_map]
  rw [if_pos h]
theorem skLe_total (a b : Int × Int) : (skLe id a b || skLe id b a) = true := by
  simp only [skLe, id]
  rw [Bool.or_eq_true, decide_eq_true_eq, decide_eq_true_eq]
  omega
theorem skLe_trans (a b c : Int × Int) (h : skLe id a b = true) (h' : skLe id b c = true) : skLe id a c = true := by
  simp only [skLe, id, decide_eq_true_eq] at *
  omega
theorem skLe_anti {a b : Int × Int} (h : skLe id a b = true) (h' : skLe id b a = true) : a = b := by
  simp only [skLe, id, decide_eq_true_eq] at *
  have h1 : a.1 = b.1 := by omega
  have h2 : a.2 = b.2 := by omega
  exact Prod.ext h1 h2
theorem sortK_perm (ps : List (Int × Int)) : (sortK ps).Perm ps := List.mergeSort_perm _ _
theorem sortK_sorted (ps : List (Int × Int)) : (sortK ps).Pairwise fun a b => skLe id a b = true := List.pairwise_mergeSort (fun a b c h h' => skLe_trans a b c h h') skLe_total ps
end
end Ev
namespace Ev
open PySem L2
theorem asgs_set (M : Store) : ∀ (is : List Nat) (ds : List D) (eta : Env), asgs M (is.map Tgt.nm) ds eta = setAll is ds eta
  | [], [], eta => rfl
  | [], d :: ds, eta => rfl
  | i :: is, [], eta => rfl
  | i :: is, d :: ds, eta => by
    simp only [List.map_cons, asgs, asg, setAll]
    exact asgs_set M is ds _
theorem setAll_len : ∀ (is : List Nat) (ds : List D) (eta : Env), is.length ≠ ds.length → setAll is ds eta = none
  | [], [], eta, h => absurd rfl h
  | [], d :: ds, eta, h => rfl
  | i :: is, [], eta, h => rfl
  | i :: is, d :: ds, eta, h => by
    simp only [setAll]
    exact setAll_len is ds _ fun z => h (by simp [z])
theorem asg_eq_par {is : List Nat} (hc : is.length ≤ cap) (g : EvL) : sAsg (.tp (is.map Tgt.nm)) (eTup g) = sPar is g := by
  funext eta M
  unfold sAsg sPar eTup
  cases g eta M with
  | ok ds M1 =>
    simp only [Out.bind]
    by_cases hl : ds.length ≤ cap
    · rw [if_pos hl]
      simp only [OutS.bindE, asg, partsD, asgs_set]
    · rw [if_neg hl]
      simp only [OutS.bindE]
      rw [setAll_len is ds eta (by omega)]
  | exc x fs M1 => rfl
  | bad => rfl
theorem ss_asgP {sc : SC} {g : EvL} {q : List PExp} (is : List Nat) {ts : List Tgt} (h : SV sc g q) (ht : ts = is.map Tgt.nm := by rfl) (hc : is.length ≤ cap := by decide) : SS sc (sAsg (.tp ts) (eTup g)) (pPar is q) := by
  rw [ht, asg_eq_par hc]
  exact ss_par h
end Ev
set_option maxHeartbeats 8000000
namespace Ev
open PySem L2
/-- is_integer(value:lk); names ['value'] -/
def p0 (U : PTab) : PStm :=
  pRet (pAnE (pOp opIsi [.bor 0, .ex (pC (.cst (.ty "int")))]) (pOp opNt [.ex (pOp opIsi [.bor 0, .ex (pC (.cst (.ty "bool")))])]))
theorem sn0 {sc : SC} {T : Tab} {U : PTab} (hT : TSnd sc T U) : SS sc (d0 T) (p0 U) :=
  ss_ret (se_an (se_B snd_isi (sl_bor (sl_ex (se_cst) (sl_nil)))) (se_nt (sl_ex (se_B snd_isi (sl_bor (sl_ex (se_cst) (sl_nil)))) (sl_nil))))
/-- is_number(value:lk); names ['value'] -/
def p1 (U : PTab) : PStm :=
  pRet (pAnE (pCall U 0 [.bor 0] [false]) (pOp opGe [.bor 0, .ex (pC (.int 0))]))
theorem sn1 {sc : SC} {T : Tab} {U : PTab} (hT : TSnd sc T U) : SS sc (d1 T) (p1 U) :=
  ss_ret (se_an (se_call hT (sl_bor (sl_nil))) (se_bin snd_ge (sl_bor (sl_ex (se_int) (sl_nil)))))
def p2_b0 (U : PTab) : PStm := pSeq (pSet 3 (pCall U 2 [.ex (pVar 2)] [false])) (pIf (pTof (pOp (opIs true) [.bor 3, .ex (pC .non)])) (pRet (pTup [.ex (pVar 1), .stb 3])) (pSkip))
theorem sn2_b0 {sc : SC} {T : Tab} {U : PTab} (hT : TSnd sc T U) : SS sc (d2_b0 T) (p2_b0 U) := ss_seq (ss_set (se_call hT (sl_ex (se_var) (sl_nil))))
    (ss_if (st_of (se_bin (snd_is true) (sl_bor (sl_ex (se_non) (sl_nil))))) (ss_ret (se_tup (sl_ex (se_var) (sl_stb (sl_nil))))) (ss_skip))
/-- wrong_shape(value:sh); names ['value', 'side', 'part', 'path'] -/
def p2 (U : PTab) : PStm :=
  pSeq (pIf (pOrr (pNt (pTru [.ex (pOp opIsi [.bor 0, .ex (pC (.cst (.ty "tuple")))])])) (pTof (pOp (opIn true) [.ex (pOp opLen [.bor 0]), .ex (pTup [.ex (pC (.int 0)), .ex (pC (.int 2))])]))) (pRet (pTup [])) (pSkip)) (pSeq (pFor (pItV enumP [.ex (pVar 0)]) (.tp [.nm 1, .nm 2]) (p2_b0 U)) (pRet (pC .non)))
theorem sn2 {sc : SC} {T : Tab} {U : PTab} (hT : TSnd sc T U) : SS sc (d2 T) (p2 U) :=
  ss_seq (ss_if (st_or (st_not (st_tru (sl_ex (se_B snd_isi (sl_bor (sl_ex (se_cst) (sl_nil)))) (sl_nil)))) (st_of (se_bin (snd_in true) (sl_ex (se_B snd_len (sl_bor (sl_nil))) (sl_ex (se_tup (sl_ex (se_int) (sl_ex (se_int) (sl_nil)))) (sl_nil)))))) (ss_ret (se_tup (sl_nil))) (ss_skip))
    (ss_seq (ss_for (si_enum (sl_ex (se_var) (sl_nil))) (sn2_b0 hT))
    (ss_ret (se_non)))
def p3_q0 (U : PTab) : PStop := pTof (pOp (opEq true) [.bor 2, .ex (pLst [])])
theorem sn3_q0 {sc : SC} {T : Tab} {U : PTab} (hT : TSnd sc T U) : ST sc (d3_q0 T) (p3_q0 U) := st_of (se_bin (snd_eq true) (sl_bor (sl_ex (se_lst (sl_nil)) (sl_nil))))
def p3_b0 (U : PTab) : PStm := pSeq (pSet 3 (pMut 2 mopPop [])) (pSeq (pAug 1 opAddI (pIfE (pTof (pOp (opEq false) [.bor 3, .ex (pTup [])])) (pC (.int 1)) (pC (.int 0)))) (pExpr (pMutB 2 mopExtend [.bor 3])))
theorem sn3_b0 {sc : SC} {T : Tab} {U : PTab} (hT : TSnd sc T U) : SS sc (d3_b0 T) (p3_b0 U) := ss_seq (ss_set (se_mut0 msnd_pop))
    (ss_seq (ss_aug snd_addI (se_if (st_of (se_bin (snd_eq false) (sl_bor (sl_ex (se_tup (sl_nil)) (sl_nil))))) (se_int) (se_int)))
    (ss_expr (se_mutB msnd_extend (sl_bor (sl_nil)))))
/-- size_of(shape:sh); names ['shape', 'found', 'rest', 'part'] -/
def p3 (U : PTab) : PStm :=
  pSeq (pPar [1, 2] [pC (.int 0), pLst [.ex (pVar 0)]]) (pSeq (pWhile (p3_q0 U) (p3_b0 U) WFU) (pRetV 1))
theorem sn3 {sc : SC} {T : Tab} {U : PTab} (hT : TSnd sc T U) : SS sc (d3 T) (p3 U) :=
  ss_seq (ss_par (sv2_cons (se_int) (sv2_cons (se_lst (sl_ex (se_var) (sl_nil))) (sv2_nil))))
    (ss_seq (ss_while WFU WFU_le (sn3_q0 hT) (sn3_b0 hT))
    (ss_retV))
def p4_b0 (U : PTab) : PStm := pSet 2 (pIfE (pTof (pOp (opEq false) [.bor 1, .ex (pC (.str "left"))])) (pTup [.ex (pVar 2), .ex (pTup [])]) (pTup [.ex (pTup []), .ex (pVar 2)]))
theorem sn4_b0 {sc : SC} {T : Tab} {U : PTab} (hT : TSnd sc T U) : SS sc (d4_b0 T) (p4_b0 U) := ss_set (se_if (st_of (se_bin (snd_eq false) (sl_bor (sl_ex (se_str) (sl_nil))))) (se_tup (sl_ex (se_var) (sl_ex (se_tup (sl_nil)) (sl_nil)))) (se_tup (sl_ex (se_tup (sl_nil)) (sl_ex (se_var) (sl_nil)))))
/-- comb(n:lk, side:lk); names ['n', 'side', 'found', 'lap'] -/
def p4 (U : PTab) : PStm :=
  pSeq (pSet 2 (pTup [])) (pSeq (pFor (pItB rg1P [.ex (pOp opSub [.bor 0, .ex (pC (.int 1))])]) (.nm 3) (p4_b0 U)) (pRetV 2))
theorem sn4 {sc : SC} {T : Tab} {U : PTab} (hT : TSnd sc T U) : SS sc (d4 T) (p4 U) :=
  ss_seq (ss_set (se_tup (sl_nil)))
    (ss_seq (ss_for (si_rg1 (sl_ex (se_bin snd_sub (sl_bor (sl_ex (se_int) (sl_nil)))) (sl_nil))) (sn4_b0 hT))
    (ss_retV))
def p5_b0 (U : PTab) : PStm := pIf (pTof (pOp (opEq true) [.ex (pCall U 3 [.ex (pVar 2)] [false]), .ex (pOp opAdd [.bor 1, .ex (pC (.int 2))])])) (pRet (pTup [.ex (pVar 1)])) (pSkip)
theorem sn5_b0 {sc : SC} {T : Tab} {U : PTab} (hT : TSnd sc T U) : SS sc (d5_b0 T) (p5_b0 U) := ss_if (st_of (se_bin (snd_eq true) (sl_ex (se_call hT (sl_ex (se_var) (sl_nil))) (sl_ex (se_bin snd_add (sl_bor (sl_ex (se_int) (sl_nil)))) (sl_nil))))) (ss_ret (se_tup (sl_ex (se_var) (sl_nil)))) (ss_skip)
/-- wrong_sizes(shapes:sh); names ['shapes', 'k', 'shape'] -/
def p5 (U : PTab) : PStm :=
  pSeq (pFor (pItV enumP [.ex (pVar 0)]) (.tp [.nm 1, .nm 2]) (p5_b0 U)) (pRet (pC .non))
theorem sn5 {sc : SC} {T : Tab} {U : PTab} (hT : TSnd sc T U) : SS sc (d5 T) (p5 U) :=
  ss_seq (ss_for (si_enum (sl_ex (se_var) (sl_nil))) (sn5_b0 hT))
    (ss_ret (se_non))
def p6_b0 (U : PTab) : PStm := pSeq (pSet 3 (pCall U 2 [.ex (pVar 2)] [false])) (pIf (pTof (pOp (opIs true) [.bor 3, .ex (pC .non)])) (pRet (pTup [.ex (pVar 1), .stb 3])) (pSkip))
theorem sn6_b0 {sc : SC} {T : Tab} {U : PTab} (hT : TSnd sc T U) : SS sc (d6_b0 T) (p6_b0 U) := ss_seq (ss_set (se_call hT (sl_ex (se_var) (sl_nil))))
    (ss_if (st_of (se_bin (snd_is true) (sl_bor (sl_ex (se_non) (sl_nil))))) (ss_ret (se_tup (sl_ex (se_var) (sl_stb (sl_nil))))) (ss_skip))
/-- wrong_table(value:sh); names ['value', 'k', 'shape', 'path'] -/
def p6 (U : PTab) : PStm :=
  pSeq (pIf (pOrr (pNt (pTru [.ex (pOp opIsi [.bor 0, .ex (pC (.cst (.ty "tuple")))])])) (pTof (pOp (opEq false) [.bor 0, .ex (pTup [])]))) (pRet (pTup [])) (pSkip)) (pSeq (pFor (pItV enumP [.ex (pVar 0)]) (.tp [.nm 1, .nm 2]) (p6_b0 U)) (pRet (pCall U 5 [.ex (pVar 0)] [false])))
theorem sn6 {sc : SC} {T : Tab} {U : PTab} (hT : TSnd sc T U) : SS sc (d6 T) (p6 U) :=
  ss_seq (ss_if (st_or (st_not (st_tru (sl_ex (se_B snd_isi (sl_bor (sl_ex (se_cst) (sl_nil)))) (sl_nil)))) (st_of (se_bin (snd_eq false) (sl_bor (sl_ex (se_tup (sl_nil)) (sl_nil)))))) (ss_ret (se_tup (sl_nil))) (ss_skip))
    (ss_seq (ss_for (si_enum (sl_ex (se_var) (sl_nil))) (sn6_b0 hT))
    (ss_ret (se_call hT (sl_ex (se_var) (sl_nil)))))
/-- table_size(table:lk); names ['table'] -/
def p7 (U : PTab) : PStm :=
  pRet (pOp opAdd [.ex (pOp opLen [.bor 0]), .ex (pC (.int 1))])
theorem sn7 {sc : SC} {T : Tab} {U : PTab} (hT : TSnd sc T U) : SS sc (d7 T) (p7 U) :=
  ss_ret (se_bin snd_add (sl_ex (se_B snd_len (sl_bor (sl_nil))) (sl_ex (se_int) (sl_nil))))
/-- entry(table:lk, m:lk); names ['table', 'm'] -/
def p8 (U : PTab) : PStm :=
  pRet (pIfE (pTof (pOp (opEq false) [.bor 1, .ex (pC (.int 1))])) (pTup []) (pOp opIx [.bor 0, .ex (pOp opSub [.bor 1, .ex (pC (.int 2))])]))
theorem sn8 {sc : SC} {T : Tab} {U : PTab} (hT : TSnd sc T U) : SS sc (d8 T) (p8 U) :=
  ss_ret (se_if (st_of (se_bin (snd_eq false) (sl_bor (sl_ex (se_int) (sl_nil))))) (se_tup (sl_nil)) (se_bin snd_ix (sl_bor (sl_ex (se_bin snd_sub (sl_bor (sl_ex (se_int) (sl_nil)))) (sl_nil)))))
/-- filled(form:lk, lumps:io); names ['form', 'lumps', 'left'] -/
def p9 (U : PTab) : PStm :=
  pSeq (pIf (pTof (pOp (opEq false) [.bor 0, .ex (pTup [])])) (pRet (pMut 1 mopPop [.ex (pC (.int 0))])) (pSkip)) (pSeq (pSet 2 (pCall U 9 [.ex (pOp opIx [.bor 0, .ex (pC (.int 0))]), .bor 1] [false, true])) (pRet (pTup [.ex (pVar 2), .ex (pCall U 9 [.ex (pOp opIx [.bor 0, .ex (pC (.int 1))]), .bor 1] [false, true])])))
theorem sn9 {sc : SC} {T : Tab} {U : PTab} (hT : TSnd sc T U) : SS sc (d9 T) (p9 U) :=
  ss_seq (ss_if (st_of (se_bin (snd_eq false) (sl_bor (sl_ex (se_tup (sl_nil)) (sl_nil))))) (ss_ret (se_mut msnd_pop (sl_ex (se_int) (sl_nil)))) (ss_skip))
    (ss_seq (ss_set (se_call hT (sl_ex (se_bin snd_ix (sl_bor (sl_ex (se_int) (sl_nil)))) (sl_bor (sl_nil)))))
    (ss_ret (se_tup (sl_ex (se_var) (sl_ex (se_call hT (sl_ex (se_bin snd_ix (sl_bor (sl_ex (se_int) (sl_nil)))) (sl_bor (sl_nil)))) (sl_nil))))))
def p10_b0 (U : PTab) : PStm := pSeq (pSet 5 (pCut [.bor 1] (poSome (pVar 4)) (poSome (pOp opAdd [.bor 4, .bor 2])))) (pExpr (pMut 3 mopAppend [.ex (pCallF U 9 (pCall U 8 [.bor 0, .ex (pOp opLen [.bor 5])] [false, false]) (pOp opList [.bor 5]))]))
theorem sn10_b0 {sc : SC} {T : Tab} {U : PTab} (hT : TSnd sc T U) : SS sc (d10_b0 T) (p10_b0 U) := ss_seq (ss_set (se_cut (sl_bor (sl_nil)) (so_some (se_var)) (so_some (se_bin snd_add (sl_bor (sl_bor (sl_nil)))))))
    (ss_expr (se_mut msnd_append (sl_ex (se_callF hT (se_call hT (sl_bor (sl_ex (se_B snd_len (sl_bor (sl_nil))) (sl_nil)))) (se_B snd_list (sl_bor (sl_nil)))) (sl_nil))))
/-- pressed(table:lk, row:lk); names ['table', 'row', 'size', 'found', 'first', 'stretch'] -/
def p10 (U : PTab) : PStm :=
  pSeq (pPar [2, 3] [pCall U 7 [.bor 0] [false], pLst []]) (pSeq (pFor (pItB rg3P [.ex (pC (.int 0)), .ex (pOp opLen [.bor 1]), .bor 2]) (.nm 4) (p10_b0 U)) (pRetV 3))
theorem sn10 {sc : SC} {T : Tab} {U : PTab} (hT : TSnd sc T U) : SS sc (d10 T) (p10 U) :=
  ss_seq (ss_par (sv2_cons (se_call hT (sl_bor (sl_nil))) (sv2_cons (se_lst (sl_nil)) (sv2_nil))))
    (ss_seq (ss_for (si_rg3 (sl_ex (se_int) (sl_ex (se_B snd_len (sl_bor (sl_nil))) (sl_bor (sl_nil))))) (sn10_b0 hT))
    (ss_retV))
def p11_q0 (U : PTab) : PStop := pAnd (pTof (pOp opGt [.ex (pOp opLen [.bor 2]), .ex (pC (.int 1))])) (pTof (pOp (opIs true) [.ex (pMeth U 43 0 "stage" (pVar 0) [.bor 3] [false]), .ex (pC .non)]))
theorem sn11_q0 {sc : SC} {T : Tab} {U : PTab} (hT : TSnd sc T U) : ST sc (d11_q0 T) (p11_q0 U) := st_an (st_of (se_bin snd_gt (sl_ex (se_B snd_len (sl_bor (sl_nil))) (sl_ex (se_int) (sl_nil))))) (st_of (se_bin (snd_is true) (sl_ex (se_meth hT (se_var) (sl_bor (sl_nil))) (sl_ex (se_non) (sl_nil)))))
def p11_b0 (U : PTab) : PStm := pSeq (pSet 2 (pCall U 10 [.ex (pMeth U 43 0 "stage" (pVar 0) [.bor 3] [false]), .bor 2] [false, false])) (pAug 3 opAddI (pC (.int 1)))
theorem sn11_b0 {sc : SC} {T : Tab} {U : PTab} (hT : TSnd sc T U) : SS sc (d11_b0 T) (p11_b0 U) := ss_seq (ss_set (se_call hT (sl_ex (se_meth hT (se_var) (sl_bor (sl_nil))) (sl_bor (sl_nil)))))
    (ss_aug snd_addI (se_int))
/-- shape(plan:sh, n:lk); names ['plan', 'n', 'row', 'number'] -/
def p11 (U : PTab) : PStm :=
  pSeq (pPar [2, 3] [pOp opMul [.ex (pLst [.ex (pTup [])]), .bor 1], pC (.int 0)]) (pSeq (pWhile (p11_q0 U) (p11_b0 U) WFU) (pRet (pIfE (pTof (pOp (opEq false) [.ex (pOp opLen [.bor 2]), .ex (pC (.int 1))])) (pOp opIx [.bor 2, .ex (pC (.int 0))]) (pCall U 9 [.ex (pCall U 4 [.ex (pOp opLen [.bor 2]), .ex (pMeth U 42 0 "end" (pVar 0) [] [])] [false, false]), .bor 2] [false, true]))))
theorem sn11 {sc : SC} {T : Tab} {U : PTab} (hT : TSnd sc T U) : SS sc (d11 T) (p11 U) :=
  ss_seq (ss_par (sv2_cons (se_bin snd_mul (sl_ex (se_lst (sl_ex (se_tup (sl_nil)) (sl_nil))) (sl_bor (sl_nil)))) (sv2_cons (se_int) (sv2_nil))))
    (ss_seq (ss_while WFU WFU_le (sn11_q0 hT) (sn11_b0 hT))
    (ss_ret (se_if (st_of (se_bin (snd_eq false) (sl_ex (se_B snd_len (sl_bor (sl_nil))) (sl_ex (se_int) (sl_nil))))) (se_bin snd_ix (sl_bor (sl_ex (se_int) (sl_nil)))) (se_call hT (sl_ex (se_call hT (sl_ex (se_B snd_len (sl_bor (sl_nil))) (sl_ex (se_meth hT (se_var) (sl_nil)) (sl_nil)))) (sl_bor (sl_nil)))))))
def p12_q0 (U : PTab) : PStop := pAnd (pTof (pOp opGt [.ex (pOp opIx [.bor 2, .ex (pOp opNeg [.ex (pC (.int 1))])]), .ex (pC (.int 1))])) (pTof (pOp (opIs true) [.ex (pMeth U 43 0 "stage" (pVar 0) [.ex (pOp opSub [.ex (pOp opLen [.bor 2]), .ex (pC (.int 1))])] [false]), .ex (pC .non)]))
theorem sn12_q0 {sc : SC} {T : Tab} {U : PTab} (hT : TSnd sc T U) : ST sc (d12_q0 T) (p12_q0 U) := st_an (st_of (se_bin snd_gt (sl_ex (se_bin snd_ix (sl_bor (sl_ex (se_un snd_neg (sl_ex (se_int) (sl_nil))) (sl_nil)))) (sl_ex (se_int) (sl_nil))))) (st_of (se_bin (snd_is true) (sl_ex (se_meth hT (se_var) (sl_ex (se_bin snd_sub (sl_ex (se_B snd_len (sl_bor (sl_nil))) (sl_ex (se_int) (sl_nil)))) (sl_nil))) (sl_ex (se_non) (sl_nil)))))
def p12_b0 (U : PTab) : PStm := pSeq (pSet 3 (pCall U 7 [.ex (pMeth U 43 0 "stage" (pVar 0) [.ex (pOp opSub [.ex (pOp opLen [.bor 2]), .ex (pC (.int 1))])] [false])] [false])) (pExpr (pMut 2 mopAppend [.ex (pOp opFdiv [.ex (pOp opSub [.ex (pOp opAdd [.ex (pOp opIx [.bor 2, .ex (pOp opNeg [.ex (pC (.int 1))])]), .bor 3]), .ex (pC (.int 1))]), .bor 3])]))
theorem sn12_b0 {sc : SC} {T : Tab} {U : PTab} (hT : TSnd sc T U) : SS sc (d12_b0 T) (p12_b0 U) := ss_seq (ss_set (se_call hT (sl_ex (se_meth hT (se_var) (sl_ex (se_bin snd_sub (sl_ex (se_B snd_len (sl_bor (sl_nil))) (sl_ex (se_int) (sl_nil)))) (sl_nil))) (sl_nil))))
    (ss_expr (se_mut msnd_append (sl_ex (se_bin snd_fdiv (sl_ex (se_bin snd_sub (sl_ex (se_bin snd_add (sl_ex (se_bin snd_ix (sl_bor (sl_ex (se_un snd_neg (sl_ex (se_int) (sl_nil))) (sl_nil)))) (sl_bor (sl_nil)))) (sl_ex (se_int) (sl_nil)))) (sl_bor (sl_nil)))) (sl_nil))))
/-- counts(plan:sh, n:sh); names ['plan', 'n', 'found', 'size'] -/
def p12 (U : PTab) : PStm :=
  pSeq (pSet 2 (pLst [.ex (pVar 1)])) (pSeq (pWhile (p12_q0 U) (p12_b0 U) WFU) (pRetV 2))
theorem sn12 {sc : SC} {T : Tab} {U : PTab} (hT : TSnd sc T U) : SS sc (d12 T) (p12 U) :=
  ss_seq (ss_set (se_lst (sl_ex (se_var) (sl_nil))))
    (ss_seq (ss_while WFU WFU_le (sn12_q0 hT) (sn12_b0 hT))
    (ss_retV))
def p13_b0 (U : PTab) : PStm := pExpr (pMut 2 mopAppend [.ex (pOp opMul [.ex (pOp opIx [.bor 2, .ex (pOp opNeg [.ex (pC (.int 1))])]), .ex (pCall U 7 [.ex (pMeth U 43 0 "stage" (pVar 0) [.bor 3] [false])] [false])])])
theorem sn13_b0 {sc : SC} {T : Tab} {U : PTab} (hT : TSnd sc T U) : SS sc (d13_b0 T) (p13_b0 U) := ss_expr (se_mut msnd_append (sl_ex (se_bin snd_mul (sl_ex (se_bin snd_ix (sl_bor (sl_ex (se_un snd_neg (sl_ex (se_int) (sl_nil))) (sl_nil)))) (sl_ex (se_call hT (sl_ex (se_meth hT (se_var) (sl_bor (sl_nil))) (sl_nil))) (sl_nil)))) (sl_nil)))
/-- widths(plan:sh, n:sh); names ['plan', 'n', 'found', 'number'] -/
def p13 (U : PTab) : PStm :=
  pSeq (pSet 2 (pLst [.ex (pC (.int 1))])) (pSeq (pFor (pItB rg1P [.ex (pOp opSub [.ex (pOp opLen [.ex (pCall U 12 [.ex (pVar 0), .ex (pVar 1)] [false, false])]), .ex (pC (.int 1))])]) (.nm 3) (p13_b0 U)) (pRetV 2))
theorem sn13 {sc : SC} {T : Tab} {U : PTab} (hT : TSnd sc T U) : SS sc (d13 T) (p13 U) :=
  ss_seq (ss_set (se_lst (sl_ex (se_int) (sl_nil))))
    (ss_seq (ss_for (si_rg1 (sl_ex (se_bin snd_sub (sl_ex (se_B snd_len (sl_ex (se_call hT (sl_ex (se_var) (sl_ex (se_var) (sl_nil)))) (sl_nil))) (sl_ex (se_int) (sl_nil)))) (sl_nil))) (sn13_b0 hT))
    (ss_retV))
def p14_e0 (U : PTab) : PExp := pTup [.ex (pOp opMul [.bor 5, .bor 4]), .ex (pOp opMin [.ex (pOp opMul [.ex (pOp opAdd [.bor 5, .ex (pC (.int 1))]), .bor 4]), .bor 1])]
theorem sn14_e0 {sc : SC} {T : Tab} {U : PTab} (hT : TSnd sc T U) : SE sc (d14_e0 T) (p14_e0 U) := se_tup (sl_ex (se_bin snd_mul (sl_bor (sl_bor (sl_nil)))) (sl_ex (se_B snd_min (sl_ex (se_bin snd_mul (sl_ex (se_bin snd_add (sl_bor (sl_ex (se_int) (sl_nil)))) (sl_bor (sl_nil)))) (sl_bor (sl_nil)))) (sl_nil)))
/-- row_behind(plan:sh, n:sh, k:lk); names ['plan', 'n', 'k', 'many', 'width', 'number'] -/
def p14 (U : PTab) : PStm :=
  pSeq (pAsg (.tp [.nm 3, .nm 4]) (pTup [.ex (pOp opIx [.ex (pCut [.ex (pCall U 12 [.ex (pVar 0), .ex (pVar 1)] [false, false])] poNone (poSome (pOp opAdd [.bor 2, .ex (pC (.int 1))]))), .ex (pOp opNeg [.ex (pC (.int 1))])]), .ex (pOp opIx [.ex (pCut [.ex (pCall U 13 [.ex (pVar 0), .ex (pVar 1)] [false, false])] poNone (poSome (pOp opAdd [.bor 2, .ex (pC (.int 1))]))), .ex (pOp opNeg [.ex (pC (.int 1))])])])) (pRet (pLc (pItB rg1P [.bor 3]) (.nm 5) [5] (pYes) (p14_e0 U)))
theorem sn14 {sc : SC} {T : Tab} {U : PTab} (hT : TSnd sc T U) : SS sc (d14 T) (p14 U) :=
  ss_seq (ss_asg (se_tup (sl_ex (se_bin snd_ix (sl_ex (se_cut (sl_ex (se_call hT (sl_ex (se_var) (sl_ex (se_var) (sl_nil)))) (sl_nil)) so_none (so_some (se_bin snd_add (sl_bor (sl_ex (se_int) (sl_nil)))))) (sl_ex (se_un snd_neg (sl_ex (se_int) (sl_nil))) (sl_nil)))) (sl_ex (se_bin snd_ix (sl_ex (se_cut (sl_ex (se_call hT (sl_ex (se_var) (sl_ex (se_var) (sl_nil)))) (sl_nil)) so_none (so_some (se_bin snd_add (sl_bor (sl_ex (se_int) (sl_nil)))))) (sl_ex (se_un snd_neg (sl_ex (se_int) (sl_nil))) (sl_nil)))) (sl_nil)))))
    (ss_ret (se_lc (si_rg1 (sl_bor (sl_nil))) (st_yes) ((sn14_e0 hT))))
def p15_q0 (U : PTab) : PStop := pTof (pOp (opEq true) [.bor 1, .ex (pLst [])])
theorem sn15_q0 {sc : SC} {T : Tab} {U : PTab} (hT : TSnd sc T U) : ST sc (d15_q0 T) (p15_q0 U) := st_of (se_bin (snd_eq true) (sl_bor (sl_ex (se_lst (sl_nil)) (sl_nil))))
def p15_b0 (U : PTab) : PStm := pSeq (pAsg (.tp [.nm 3, .nm 4]) (pMut 1 mopPop [])) (pSeq (pExpr (pMut 2 mopAppend [.ex (pTup [.ex (pVar 3), .ex (pOp opAdd [.bor 3, .ex (pCall U 3 [.ex (pVar 4)] [false])])])])) (pIf (pTof (pOp (opEq true) [.bor 4, .ex (pTup [])])) (pSeq (pExpr (pMut 1 mopAppend [.ex (pTup [.ex (pOp opAdd [.bor 3, .ex (pCall U 3 [.ex (pOp opIx [.bor 4, .ex (pC (.int 0))])] [false])]), .ex (pOp opIx [.bor 4, .ex (pC (.int 1))])])])) (pExpr (pMut 1 mopAppend [.ex (pTup [.ex (pVar 3), .ex (pOp opIx [.bor 4, .ex (pC (.int 0))])])]))) (pSkip)))
theorem sn15_b0 {sc : SC} {T : Tab} {U : PTab} (hT : TSnd sc T U) : SS sc (d15_b0 T) (p15_b0 U) := ss_seq (ss_asg (se_mut0 msnd_pop))
    (ss_seq (ss_expr (se_mut msnd_append (sl_ex (se_tup (sl_ex (se_var) (sl_ex (se_bin snd_add (sl_bor (sl_ex (se_call hT (sl_ex (se_var) (sl_nil))) (sl_nil)))) (sl_nil)))) (sl_nil))))
    (ss_if (st_of (se_bin (snd_eq true) (sl_bor (sl_ex (se_tup (sl_nil)) (sl_nil))))) (ss_seq (ss_expr (se_mut msnd_append (sl_ex (se_tup (sl_ex (se_bin snd_add (sl_bor (sl_ex (se_call hT (sl_ex (se_bin snd_ix (sl_bor (sl_ex (se_int) (sl_nil)))) (sl_nil))) (sl_nil)))) (sl_ex (se_bin snd_ix (sl_bor (sl_ex (se_int) (sl_nil)))) (sl_nil)))) (sl_nil))))
    (ss_expr (se_mut msnd_append (sl_ex (se_tup (sl_ex (se_var) (sl_ex (se_bin snd_ix (sl_bor (sl_ex (se_int) (sl_nil)))) (sl_nil)))) (sl_nil))))) (ss_skip)))
/-- shape_lumps(form:sh); names ['form', 'waiting', 'found', 'start', 'part'] -/
def p15 (U : PTab) : PStm :=
  pSeq (pPar [1, 2] [pLst [.ex (pTup [.ex (pC (.int 0)), .ex (pVar 0)])], pLst []]) (pSeq (pWhile (p15_q0 U) (p15_b0 U) WFU) (pRetV 2))
theorem sn15 {sc : SC} {T : Tab} {U : PTab} (hT : TSnd sc T U) : SS sc (d15 T) (p15 U) :=
  ss_seq (ss_par (sv2_cons (se_lst (sl_ex (se_tup (sl_ex (se_int) (sl_ex (se_var) (sl_nil)))) (sl_nil))) (sv2_cons (se_lst (sl_nil)) (sv2_nil))))
    (ss_seq (ss_while WFU WFU_le (sn15_q0 hT) (sn15_b0 hT))
    (ss_retV))
def p16_e0 (U : PTab) : PExp := pTup [.ex (pC (.int 0)), .ex (pVar 2)]
theorem sn16_e0 {sc : SC} {T : Tab} {U : PTab} (hT : TSnd sc T U) : SE sc (d16_e0 T) (p16_e0 U) := se_tup (sl_ex (se_int) (sl_ex (se_var) (sl_nil)))
def p16_e1 (U : PTab) : PExp := pTup [.ex (pVar 2), .ex (pVar 0)]
theorem sn16_e1 {sc : SC} {T : Tab} {U : PTab} (hT : TSnd sc T U) : SE sc (d16_e1 T) (p16_e1 U) := se_tup (sl_ex (se_var) (sl_ex (se_var) (sl_nil)))
/-- comb_lumps(many:sh, end:lk); names ['many', 'end', 'number'] -/
def p16 (U : PTab) : PStm :=
  pSeq (pIf (pTof (pOp (opEq false) [.bor 1, .ex (pC (.str "left"))])) (pRet (pLc (pItB rg2P [.ex (pC (.int 2)), .ex (pOp opAdd [.bor 0, .ex (pC (.int 1))])]) (.nm 2) [2] (pYes) (p16_e0 U))) (pSkip)) (pRet (pLc (pItB rg1P [.ex (pOp opSub [.bor 0, .ex (pC (.int 1))])]) (.nm 2) [2] (pYes) (p16_e1 U)))
theorem sn16 {sc : SC} {T : Tab} {U : PTab} (hT : TSnd sc T U) : SS sc (d16 T) (p16 U) :=
  ss_seq (ss_if (st_of (se_bin (snd_eq false) (sl_bor (sl_ex (se_str) (sl_nil))))) (ss_ret (se_lc (si_rg2 (sl_ex (se_int) (sl_ex (se_bin snd_add (sl_bor (sl_ex (se_int) (sl_nil)))) (sl_nil)))) (st_yes) ((sn16_e0 hT)))) (ss_skip))
    (ss_ret (se_lc (si_rg1 (sl_ex (se_bin snd_sub (sl_bor (sl_ex (se_int) (sl_nil)))) (sl_nil))) (st_yes) ((sn16_e1 hT))))
def p17_q0 (U : PTab) : PStop := pTof (pOp opGt [.ex (pOp opSub [.bor 7, .bor 6]), .ex (pC (.int 1))])
theorem sn17_q0 {sc : SC} {T : Tab} {U : PTab} (hT : TSnd sc T U) : ST sc (d17_q0 T) (p17_q0 U) := st_of (se_bin snd_gt (sl_ex (se_bin snd_sub (sl_bor (sl_bor (sl_nil)))) (sl_ex (se_int) (sl_nil))))
def p17_e0 (U : PTab) : PExp := pTup [.ex (pOp opAdd [.bor 4, .bor 6]), .ex (pOp opAdd [.bor 4, .bor 7])]
theorem sn17_e0 {sc : SC} {T : Tab} {U : PTab} (hT : TSnd sc T U) : SE sc (d17_e0 T) (p17_e0 U) := se_tup (sl_ex (se_bin snd_add (sl_bor (sl_bor (sl_nil)))) (sl_ex (se_bin snd_add (sl_bor (sl_bor (sl_nil)))) (sl_nil)))
def p17_b0 (U : PTab) : PStm := pSeq (pSet 5 (pCall U 15 [.ex (pCall U 8 [.bor 0, .ex (pOp opMin [.bor 2, .ex (pOp opSub [.ex (pOp opLen [.bor 1]), .bor 4])])] [false, false])] [false])) (pExpr (pMutB 3 mopExtend [.ex (pLc (pItE (pVar 5)) (.tp [.nm 6, .nm 7]) [6, 7] (p17_q0 U) (p17_e0 U))]))
theorem sn17_b0 {sc : SC} {T : Tab} {U : PTab} (hT : TSnd sc T U) : SS sc (d17_b0 T) (p17_b0 U) := ss_seq (ss_set (se_call hT (sl_ex (se_call hT (sl_bor (sl_ex (se_B snd_min (sl_bor (sl_ex (se_bin snd_sub (sl_ex (se_B snd_len (sl_bor (sl_nil))) (sl_bor (sl_nil)))) (sl_nil)))) (sl_nil)))) (sl_nil))))
    (ss_expr (se_mutB msnd_extend (sl_ex (se_lc (si_val (se_var)) ((sn17_q0 hT)) ((sn17_e0 hT))) (sl_nil))))
/-- stretch_lumps(table:lk, row:lk); names ['table', 'row', 'size', 'found', 'first', 'some', 'one', 'other'] -/
def p17 (U : PTab) : PStm :=
  pSeq (pPar [2, 3] [pCall U 7 [.bor 0] [false], pLst []]) (pSeq (pFor (pItB rg3P [.ex (pC (.int 0)), .ex (pOp opLen [.bor 1]), .bor 2]) (.nm 4) (p17_b0 U)) (pRetV 3))
theorem sn17 {sc : SC} {T : Tab} {U : PTab} (hT : TSnd sc T U) : SS sc (d17 T) (p17 U) :=
  ss_seq (ss_par (sv2_cons (se_call hT (sl_bor (sl_nil))) (sv2_cons (se_lst (sl_nil)) (sv2_nil))))
    (ss_seq (ss_for (si_rg3 (sl_ex (se_int) (sl_ex (se_B snd_len (sl_bor (sl_nil))) (sl_bor (sl_nil))))) (sn17_b0 hT))
    (ss_retV))
def p18_e1 (U : PTab) : PExp := pTup [.ex (pVar 5), .ex (pOp opAdd [.bor 5, .ex (pC (.int 1))])]
theorem sn18_e1 {sc : SC} {T : Tab} {U : PTab} (hT : TSnd sc T U) : SE sc (d18_e1 T) (p18_e1 U) := se_tup (sl_ex (se_var) (sl_ex (se_bin snd_add (sl_bor (sl_ex (se_int) (sl_nil)))) (sl_nil)))
def p18_e2 (U : PTab) : PExp := pTup [.ex (pOp opIx [.ex (pOp opIx [.bor 2, .bor 6]), .ex (pC (.int 0))]), .ex (pOp opIx [.ex (pOp opIx [.bor 2, .ex (pOp opSub [.bor 7, .ex (pC (.int 1))])]), .ex (pC (.int 1))])]
theorem sn18_e2 {sc : SC} {T : Tab} {U : PTab} (hT : TSnd sc T U) : SE sc (d18_e2 T) (p18_e2 U) := se_tup (sl_ex (se_bin snd_ix (sl_ex (se_bin snd_ix (sl_bor (sl_bor (sl_nil)))) (sl_ex (se_int) (sl_nil)))) (sl_ex (se_bin snd_ix (sl_ex (se_bin snd_ix (sl_bor (sl_ex (se_bin snd_sub (sl_bor (sl_ex (se_int) (sl_nil)))) (sl_nil)))) (sl_ex (se_int) (sl_nil)))) (sl_nil)))
def p18_q0 (U : PTab) : PStop := pAnd (pTof (pOp opGt [.ex (pOp opLen [.bor 2]), .ex (pC (.int 1))])) (pTof (pOp (opIs true) [.ex (pMeth U 43 0 "stage" (pVar 0) [.bor 3] [false]), .ex (pC .non)]))
theorem sn18_q0 {sc : SC} {T : Tab} {U : PTab} (hT : TSnd sc T U) : ST sc (d18_q0 T) (p18_q0 U) := st_an (st_of (se_bin snd_gt (sl_ex (se_B snd_len (sl_bor (sl_nil))) (sl_ex (se_int) (sl_nil))))) (st_of (se_bin (snd_is true) (sl_ex (se_meth hT (se_var) (sl_bor (sl_nil))) (sl_ex (se_non) (sl_nil)))))
def p18_b0 (U : PTab) : PStm := pSeq (pExpr (pMutB 4 mopExtend [.ex (pLc (pItE (pCall U 17 [.ex (pMeth U 43 0 "stage" (pVar 0) [.bor 3] [false]), .bor 2] [false, false])) (.tp [.nm 6, .nm 7]) [6, 7] (pYes) (p18_e2 U))])) (pSeq (pAug 3 opAddI (pC (.int 1))) (pSet 2 (pCall U 14 [.ex (pVar 0), .ex (pVar 1), .bor 3] [false, false, false])))
theorem sn18_b0 {sc : SC} {T : Tab} {U : PTab} (hT : TSnd sc T U) : SS sc (d18_b0 T) (p18_b0 U) := ss_seq (ss_expr (se_mutB msnd_extend (sl_ex (se_lc (si_val (se_call hT (sl_ex (se_meth hT (se_var) (sl_bor (sl_nil))) (sl_bor (sl_nil))))) (st_yes) ((sn18_e2 hT))) (sl_nil))))
    (ss_seq (ss_aug snd_addI (se_int))
    (ss_set (se_call hT (sl_ex (se_var) (sl_ex (se_var) (sl_bor (sl_nil)))))))
def p18_e3 (U : PTab) : PExp := pTup [.ex (pOp opIx [.ex (pOp opIx [.bor 2, .bor 6]), .ex (pC (.int 0))]), .ex (pOp opIx [.ex (pOp opIx [.bor 2, .ex (pOp opSub [.bor 7, .ex (pC (.int 1))])]), .ex (pC (.int 1))])]
theorem sn18_e3 {sc : SC} {T : Tab} {U : PTab} (hT : TSnd sc T U) : SE sc (d18_e3 T) (p18_e3 U) := se_tup (sl_ex (se_bin snd_ix (sl_ex (se_bin snd_ix (sl_bor (sl_bor (sl_nil)))) (sl_ex (se_int) (sl_nil)))) (sl_ex (se_bin snd_ix (sl_ex (se_bin snd_ix (sl_bor (sl_ex (se_bin snd_sub (sl_bor (sl_ex (se_int) (sl_nil)))) (sl_nil)))) (sl_ex (se_int) (sl_nil)))) (sl_nil)))
/-- all_lumps(plan:sh, n:sh); names ['plan', 'n', 'row', 'number', 'found', 'place', 'one', 'other'] -/
def p18 (U : PTab) : PStm :=
  pSeq (pPar [2, 3, 4] [pCall U 14 [.ex (pVar 0), .ex (pVar 1), .ex (pC (.int 0))] [false, false, false], pC (.int 0), pLc (pItB rg1P [.bor 1]) (.nm 5) [5] (pYes) (p18_e1 U)]) (pSeq (pWhile (p18_q0 U) (p18_b0 U) WFU) (pSeq (pIf (pTof (pOp opGt [.ex (pOp opLen [.bor 2]), .ex (pC (.int 1))])) (pExpr (pMutB 4 mopExtend [.ex (pLc (pItE (pCall U 16 [.ex (pOp opLen [.bor 2]), .ex (pMeth U 42 0 "end" (pVar 0) [] [])] [false, false])) (.tp [.nm 6, .nm 7]) [6, 7] (pYes) (p18_e3 U))])) (pSkip)) (pRet (pOp opSortK [.bor 4]))))
theorem sn18 {sc : SC} {T : Tab} {U : PTab} (hT : TSnd sc T U) : SS sc (d18 T) (p18 U) :=
  ss_seq (ss_asgP [2, 3, 4] (sv2_cons (se_call hT (sl_ex (se_var) (sl_ex (se_var) (sl_ex (se_int) (sl_nil))))) (sv2_cons (se_int) (sv2_cons (se_lc (si_rg1 (sl_bor (sl_nil))) (st_yes) ((sn18_e1 hT))) (sv2_nil)))))
    (ss_seq (ss_while WFU WFU_le (sn18_q0 hT) (sn18_b0 hT))
    (ss_seq (ss_if (st_of (se_bin snd_gt (sl_ex (se_B snd_len (sl_bor (sl_nil))) (sl_ex (se_int) (sl_nil))))) (ss_expr (se_mutB msnd_extend (sl_ex (se_lc (si_val (se_call hT (sl_ex (se_B snd_len (sl_bor (sl_nil))) (sl_ex (se_meth hT (se_var) (sl_nil)) (sl_nil))))) (st_yes) ((sn18_e3 hT))) (sl_nil)))) (ss_skip))
    (ss_ret (se_B snd_sortK (sl_bor (sl_nil))))))
/-- comb_parts(one:sh, other:sh, end:lk); names ['one', 'other', 'end'] -/
def p19 (U : PTab) : PStm :=
  pRet (pIfE (pTof (pOp (opEq false) [.bor 2, .ex (pC (.str "left"))])) (pTup [.ex (pTup [.ex (pVar 0), .ex (pOp opSub [.bor 1, .ex (pC (.int 1))])]), .ex (pTup [.ex (pOp opSub [.bor 1, .ex (pC (.int 1))]), .ex (pVar 1)])]) (pTup [.ex (pTup [.ex (pVar 0), .ex (pOp opAdd [.bor 0, .ex (pC (.int 1))])]), .ex (pTup [.ex (pOp opAdd [.bor 0, .ex (pC (.int 1))]), .ex (pVar 1)])]))
theorem sn19 {sc : SC} {T : Tab} {U : PTab} (hT : TSnd sc T U) : SS sc (d19 T) (p19 U) :=
  ss_ret (se_if (st_of (se_bin (snd_eq false) (sl_bor (sl_ex (se_str) (sl_nil))))) (se_tup (sl_ex (se_tup (sl_ex (se_var) (sl_ex (se_bin snd_sub (sl_bor (sl_ex (se_int) (sl_nil)))) (sl_nil)))) (sl_ex (se_tup (sl_ex (se_bin snd_sub (sl_bor (sl_ex (se_int) (sl_nil)))) (sl_ex (se_var) (sl_nil)))) (sl_nil)))) (se_tup (sl_ex (se_tup (sl_ex (se_var) (sl_ex (se_bin snd_add (sl_bor (sl_ex (se_int) (sl_nil)))) (sl_nil)))) (sl_ex (se_tup (sl_ex (se_bin snd_add (sl_bor (sl_ex (se_int) (sl_nil)))) (sl_ex (se_var) (sl_nil)))) (sl_nil)))))
/-- Rows.__init__(self:io, plan:sh, n:sh); names ['self', 'plan', 'n'] -/
def p20 (U : PTab) : PStm :=
  pSeq (pFldS 1 "plan" 0 (pVar 1)) (pSeq (pFldS 1 "many" 0 (pCall U 12 [.ex (pVar 1), .ex (pVar 2)] [false, false])) (pFldS 1 "width" 0 (pCall U 13 [.ex (pVar 1), .ex (pVar 2)] [false, false])))
theorem sn20 {sc : SC} {T : Tab} {U : PTab} (hT : TSnd sc T U) : SS sc (d20 T) (p20 U) :=
  ss_seq (ss_fldS (se_var))
    (ss_seq (ss_fldS (se_call hT (sl_ex (se_var) (sl_ex (se_var) (sl_nil)))))
    (ss_fldS (se_call hT (sl_ex (se_var) (sl_ex (se_var) (sl_nil))))))
/-- Rows.places(self:lk, node:sh); names ['self', 'node', 'level', 'one', 'other', 'form'] -/
def p21 (U : PTab) : PStm :=
  pSeq (pAsg (.tp [.nm 2, .nm 3, .nm 4, .nm 5]) (pVar 1)) (pRet (pTup [.ex (pOp opMul [.bor 3, .ex (pOp opIx [.ex (pOp (opFld 1 "width") [.bor 0]), .bor 2])]), .ex (pOp opMin [.ex (pOp opMul [.bor 4, .ex (pOp opIx [.ex (pOp (opFld 1 "width") [.bor 0]), .bor 2])]), .ex (pOp opIx [.ex (pOp (opFld 1 "many") [.bor 0]), .ex (pC (.int 0))])])]))
theorem sn21 {sc : SC} {T : Tab} {U : PTab} (hT : TSnd sc T U) : SS sc (d21 T) (p21 U) :=
  ss_seq (ss_asg (se_var))
    (ss_ret (se_tup (sl_ex (se_bin snd_mul (sl_bor (sl_ex (se_bin snd_ix (sl_ex (se_fld (sl_bor (sl_nil))) (sl_bor (sl_nil)))) (sl_nil)))) (sl_ex (se_B snd_min (sl_ex (se_bin snd_mul (sl_bor (sl_ex (se_bin snd_ix (sl_ex (se_fld (sl_bor (sl_nil))) (sl_bor (sl_nil)))) (sl_nil)))) (sl_ex (se_bin snd_ix (sl_ex (se_fld (sl_bor (sl_nil))) (sl_ex (se_int) (sl_nil)))) (sl_nil)))) (sl_nil)))))
/-- Rows.stretch(self:lk, level:sh, number:lk); names ['self', 'level', 'number', 'table', 'first', 'many'] -/
def p22 (U : PTab) : PStm :=
  pSeq (pSet 3 (pMeth U 43 0 "stage" (pOp (opFld 1 "plan") [.bor 0]) [.bor 1] [false])) (pSeq (pSet 4 (pOp opMul [.bor 2, .ex (pCall U 7 [.bor 3] [false])])) (pSeq (pSet 5 (pOp opMin [.ex (pCall U 7 [.bor 3] [false]), .ex (pOp opSub [.ex (pOp opIx [.ex (pOp (opFld 1 "many") [.bor 0]), .bor 1]), .bor 4])])) (pRet (pTup [.ex (pVar 4), .ex (pVar 5), .ex (pCall U 8 [.bor 3, .bor 5] [false, false])]))))
theorem sn22 {sc : SC} {T : Tab} {U : PTab} (hT : TSnd sc T U) : SS sc (d22 T) (p22 U) :=
  ss_seq (ss_set (se_meth hT (se_fld (sl_bor (sl_nil))) (sl_bor (sl_nil))))
    (ss_seq (ss_set (se_bin snd_mul (sl_bor (sl_ex (se_call hT (sl_bor (sl_nil))) (sl_nil)))))
    (ss_seq (ss_set (se_B snd_min (sl_ex (se_call hT (sl_bor (sl_nil))) (sl_ex (se_bin snd_sub (sl_ex (se_bin snd_ix (sl_ex (se_fld (sl_bor (sl_nil))) (sl_bor (sl_nil)))) (sl_bor (sl_nil)))) (sl_nil)))))
    (ss_ret (se_tup (sl_ex (se_var) (sl_ex (se_var) (sl_ex (se_call hT (sl_bor (sl_bor (sl_nil)))) (sl_nil))))))))
def p23_q0 (U : PTab) : PStop := pAnd (pTof (pOp (opEq false) [.ex (pOp opSub [.bor 4, .bor 3]), .ex (pC (.int 1))])) (pTof (pOp opGt [.bor 2, .ex (pC (.int 0))]))
theorem sn23_q0 {sc : SC} {T : Tab} {U : PTab} (hT : TSnd sc T U) : ST sc (d23_q0 T) (p23_q0 U) := st_an (st_of (se_bin (snd_eq false) (sl_ex (se_bin snd_sub (sl_bor (sl_bor (sl_nil)))) (sl_ex (se_int) (sl_nil))))) (st_of (se_bin snd_gt (sl_bor (sl_ex (se_int) (sl_nil)))))
def p23_b0 (U : PTab) : PStm := pSeq (pAug 2 opSub (pC (.int 1))) (pSeq (pAsg (.tp [.nm 6, .nm 7, .nm 5]) (pMeth U 22 1 "stretch" (pVar 0) [.ex (pVar 2), .bor 3] [false, false])) (pPar [3, 4] [pVar 6, pOp opAdd [.bor 6, .bor 7]]))
theorem sn23_b0 {sc : SC} {T : Tab} {U : PTab} (hT : TSnd sc T U) : SS sc (d23_b0 T) (p23_b0 U) := ss_seq (ss_aug snd_sub (se_int))
    (ss_seq (ss_asg (se_meth hT (se_var) (sl_ex (se_var) (sl_bor (sl_nil)))))
    (ss_par (sv2_cons (se_var) (sv2_cons (se_bin snd_add (sl_bor (sl_bor (sl_nil)))) (sv2_nil)))))
/-- Rows.opened(self:sh, node:sh); names ['self', 'node', 'level', 'one', 'other', 'form', 'first', 'many'] -/
def p23 (U : PTab) : PStm :=
  pSeq (pAsg (.tp [.nm 2, .nm 3, .nm 4, .nm 5]) (pVar 1)) (pSeq (pWhile (p23_q0 U) (p23_b0 U) WFU) (pRet (pTup [.ex (pVar 2), .ex (pVar 3), .ex (pVar 4), .ex (pVar 5)])))
theorem sn23 {sc : SC} {T : Tab} {U : PTab} (hT : TSnd sc T U) : SS sc (d23 T) (p23 U) :=
  ss_seq (ss_asg (se_var))
    (ss_seq (ss_while WFU WFU_le (sn23_q0 hT) (sn23_b0 hT))
    (ss_ret (se_tup (sl_ex (se_var) (sl_ex (se_var) (sl_ex (se_var) (sl_ex (se_var) (sl_nil))))))))
/-- Rows.root(self:sh); names ['self'] -/
def p24 (U : PTab) : PStm :=
  pRet (pMeth U 23 1 "opened" (pVar 0) [.ex (pTup [.ex (pOp opSub [.ex (pOp opLen [.ex (pOp (opFld 1 "many") [.bor 0])]), .ex (pC (.int 1))]), .ex (pC (.int 0)), .ex (pOp opIx [.ex (pOp (opFld 1 "many") [.bor 0]), .ex (pOp opNeg [.ex (pC (.int 1))])]), .ex (pC .non)])] [false])
theorem sn24 {sc : SC} {T : Tab} {U : PTab} (hT : TSnd sc T U) : SS sc (d24 T) (p24 U) :=
  ss_ret (se_meth hT (se_var) (sl_ex (se_tup (sl_ex (se_bin snd_sub (sl_ex (se_B snd_len (sl_ex (se_fld (sl_bor (sl_nil))) (sl_nil))) (sl_ex (se_int) (sl_nil)))) (sl_ex (se_int) (sl_ex (se_bin snd_ix (sl_ex (se_fld (sl_bor (sl_nil))) (sl_ex (se_un snd_neg (sl_ex (se_int) (sl_nil))) (sl_nil)))) (sl_ex (se_non) (sl_nil)))))) (sl_nil)))
def p25_e0 (U : PTab) : PExp := pMeth U 23 1 "opened" (pVar 0) [.ex (pTup [.ex (pVar 2), .ex (pVar 8), .ex (pVar 9), .ex (pC .non)])] [false]
theorem sn25_e0 {sc : SC} {T : Tab} {U : PTab} (hT : TSnd sc T U) : SE sc (d25_e0 T) (p25_e0 U) := se_meth hT (se_var) (sl_ex (se_tup (sl_ex (se_var) (sl_ex (se_var) (sl_ex (se_var) (sl_ex (se_non) (sl_nil)))))) (sl_nil))
/-- Rows.parts(self:sh, node:sh); names ['self', 'node', 'level', 'one', 'other', 'form', 'pairs', 'middle', 'first', 'last'] -/
def p25 (U : PTab) : PStm :=
  pSeq (pAsg (.tp [.nm 2, .nm 3, .nm 4, .nm 5]) (pVar 1)) (pSeq (pIf (pTof (pOp (opEq false) [.ex (pOp opSub [.bor 4, .bor 3]), .ex (pC (.int 1))])) (pRet (pLst [])) (pSkip)) (pSeq (pIf (pTof (pOp (opIs false) [.bor 5, .ex (pC .non)])) (pSeq (pSet 6 (pCall U 19 [.ex (pVar 3), .ex (pVar 4), .ex (pMeth U 42 0 "end" (pOp (opFld 1 "plan") [.bor 0]) [] [])] [false, false, false])) (pRet (pLc (pItE (pVar 6)) (.tp [.nm 8, .nm 9]) [8, 9] (pYes) (p25_e0 U)))) (pSkip)) (pSeq (pSet 7 (pOp opAdd [.bor 3, .ex (pCall U 3 [.ex (pOp opIx [.bor 5, .ex (pC (.int 0))])] [false])])) (pRet (pLst [.ex (pMeth U 23 1 "opened" (pVar 0) [.ex (pTup [.ex (pVar 2), .ex (pVar 3), .ex (pVar 7), .ex (pOp opIx [.bor 5, .ex (pC (.int 0))])])] [false]), .ex (pMeth U 23 1 "opened" (pVar 0) [.ex (pTup [.ex (pVar 2), .ex (pVar 7), .ex (pVar 4), .ex (pOp opIx [.bor 5, .ex (pC (.int 1))])])] [false])])))))
theorem sn25 {sc : SC} {T : Tab} {U : PTab} (hT : TSnd sc T U) : SS sc (d25 T) (p25 U) :=
  ss_seq (ss_asg (se_var))
    (ss_seq (ss_if (st_of (se_bin (snd_eq false) (sl_ex (se_bin snd_sub (sl_bor (sl_bor (sl_nil)))) (sl_ex (se_int) (sl_nil))))) (ss_ret (se_lst (sl_nil))) (ss_skip))
    (ss_seq (ss_if (st_of (se_bin (snd_is false) (sl_bor (sl_ex (se_non) (sl_nil))))) (ss_seq (ss_set (se_call hT (sl_ex (se_var) (sl_ex (se_var) (sl_ex (se_meth hT (se_fld (sl_bor (sl_nil))) (sl_nil)) (sl_nil))))))
    (ss_ret (se_lc (si_val (se_var)) (st_yes) ((sn25_e0 hT))))) (ss_skip))
    (ss_seq (ss_set (se_bin snd_add (sl_bor (sl_ex (se_call hT (sl_ex (se_bin snd_ix (sl_bor (sl_ex (se_int) (sl_nil)))) (sl_nil))) (sl_nil)))))
    (ss_ret (se_lst (sl_ex (se_meth hT (se_var) (sl_ex (se_tup (sl_ex (se_var) (sl_ex (se_var) (sl_ex (se_var) (sl_ex (se_bin snd_ix (sl_bor (sl_ex (se_int) (sl_nil)))) (sl_nil)))))) (sl_nil))) (sl_ex (se_meth hT (se_var) (sl_ex (se_tup (sl_ex (se_var) (sl_ex (se_var) (sl_ex (se_var) (sl_ex (se_bin snd_ix (sl_bor (sl_ex (se_int) (sl_nil)))) (sl_nil)))))) (sl_nil))) (sl_nil))))))))
def p26_q0 (U : PTab) : PStop := pTru [.ex (pC (.bl true))]
theorem sn26_q0 {sc : SC} {T : Tab} {U : PTab} (hT : TSnd sc T U) : ST sc (d26_q0 T) (p26_q0 U) := st_tru (sl_ex (se_bl) (sl_nil))
def p26_b0 (U : PTab) : PStm := pSeq (pSet 8 (pOp opAdd [.bor 5, .ex (pCall U 3 [.ex (pOp opIx [.bor 7, .ex (pC (.int 0))])] [false])])) (pSeq (pIf (pTof (pChn opLt opLe (pVar 2) (pVar 8) (pVar 3))) (pRet (pTup [.ex (pVar 4), .ex (pVar 5), .ex (pVar 6), .ex (pVar 7)])) (pSkip)) (pAsg (.tp [.nm 5, .nm 6, .nm 7]) (pIfE (pTof (pOp opLt [.bor 3, .bor 8])) (pTup [.ex (pVar 5), .ex (pVar 8), .ex (pOp opIx [.bor 7, .ex (pC (.int 0))])]) (pTup [.ex (pVar 8), .ex (pVar 6), .ex (pOp opIx [.bor 7, .ex (pC (.int 1))])]))))
theorem sn26_b0 {sc : SC} {T : Tab} {U : PTab} (hT : TSnd sc T U) : SS sc (d26_b0 T) (p26_b0 U) := ss_seq (ss_set (se_bin snd_add (sl_bor (sl_ex (se_call hT (sl_ex (se_bin snd_ix (sl_bor (sl_ex (se_int) (sl_nil)))) (sl_nil))) (sl_nil)))))
    (ss_seq (ss_if (st_of (se_chn snd_lt snd_le (se_var) (se_var) (se_var))) (ss_ret (se_tup (sl_ex (se_var) (sl_ex (se_var) (sl_ex (se_var) (sl_ex (se_var) (sl_nil))))))) (ss_skip))
    (ss_asg (se_if (st_of (se_bin snd_lt (sl_bor (sl_bor (sl_nil))))) (se_tup (sl_ex (se_var) (sl_ex (se_var) (sl_ex (se_bin snd_ix (sl_bor (sl_ex (se_int) (sl_nil)))) (sl_nil))))) (se_tup (sl_ex (se_var) (sl_ex (se_var) (sl_ex (se_bin snd_ix (sl_bor (sl_ex (se_int) (sl_nil)))) (sl_nil))))))))
/-- Rows.narrowed(self:lk, node:sh, low:sh, high:sh); names ['self', 'node', 'low', 'high', 'level', 'one', 'other', 'form', 'middle'] -/
def p26 (U : PTab) : PStm :=
  pSeq (pAsg (.tp [.nm 4, .nm 5, .nm 6, .nm 7]) (pVar 1)) (pWhile (p26_q0 U) (p26_b0 U) WFU)
theorem sn26 {sc : SC} {T : Tab} {U : PTab} (hT : TSnd sc T U) : SS sc (d26 T) (p26 U) :=
  ss_seq (ss_asg (se_var))
    (ss_while WFU WFU_le (sn26_q0 hT) (sn26_b0 hT))
def p27_b0 (U : PTab) : PStm := pSeq (pSet 4 (pCall U 7 [.ex (pMeth U 43 0 "stage" (pOp (opFld 1 "plan") [.bor 0]) [.bor 3] [false])] [false])) (pSeq (pIf (pTof (pOp (opEq false) [.ex (pOp opFdiv [.bor 1, .bor 4]), .ex (pOp opFdiv [.bor 2, .bor 4])])) (pSeq (pAsg (.tp [.nm 5, .nm 6, .nm 7]) (pMeth U 22 1 "stretch" (pVar 0) [.ex (pVar 3), .ex (pOp opFdiv [.bor 1, .bor 4])] [false, false])) (pRet (pMeth U 26 1 "narrowed" (pVar 0) [.ex (pTup [.ex (pVar 3), .ex (pVar 5), .ex (pOp opAdd [.bor 5, .bor 6]), .ex (pVar 7)]), .ex (pVar 1), .ex (pVar 2)] [false, false, false]))) (pSkip)) (pPar [1, 2] [pOp opFdiv [.bor 1, .bor 4], pOp opFdiv [.bor 2, .bor 4]]))
theorem sn27_b0 {sc : SC} {T : Tab} {U : PTab} (hT : TSnd sc T U) : SS sc (d27_b0 T) (p27_b0 U) := ss_seq (ss_set (se_call hT (sl_ex (se_meth hT (se_fld (sl_bor (sl_nil))) (sl_bor (sl_nil))) (sl_nil))))
    (ss_seq (ss_if (st_of (se_bin (snd_eq false) (sl_ex (se_bin snd_fdiv (sl_bor (sl_bor (sl_nil)))) (sl_ex (se_bin snd_fdiv (sl_bor (sl_bor (sl_nil)))) (sl_nil))))) (ss_seq (ss_asg (se_meth hT (se_var) (sl_ex (se_var) (sl_ex (se_bin snd_fdiv (sl_bor (sl_bor (sl_nil)))) (sl_nil)))))
    (ss_ret (se_meth hT (se_var) (sl_ex (se_tup (sl_ex (se_var) (sl_ex (se_var) (sl_ex (se_bin snd_add (sl_bor (sl_bor (sl_nil)))) (sl_ex (se_var) (sl_nil)))))) (sl_ex (se_var) (sl_ex (se_var) (sl_nil))))))) (ss_skip))
    (ss_par (sv2_cons (se_bin snd_fdiv (sl_bor (sl_bor (sl_nil)))) (sv2_cons (se_bin snd_fdiv (sl_bor (sl_bor (sl_nil)))) (sv2_nil)))))
/-- Rows.least(self:sh, low:sh, high:sh); names ['self', 'low', 'high', 'level', 'size', 'first', 'many', 'form'] -/
def p27 (U : PTab) : PStm :=
  pSeq (pFor (pItB rg1P [.ex (pOp opSub [.ex (pOp opLen [.ex (pOp (opFld 1 "many") [.bor 0])]), .ex (pC (.int 1))])]) (.nm 3) (p27_b0 U)) (pSeq (pSet 3 (pOp opSub [.ex (pOp opLen [.ex (pOp (opFld 1 "many") [.bor 0])]), .ex (pC (.int 1))])) (pRet (pIfE (pTof (pOp (opEq false) [.ex (pMeth U 42 0 "end" (pOp (opFld 1 "plan") [.bor 0]) [] []), .ex (pC (.str "left"))])) (pTup [.ex (pVar 3), .ex (pC (.int 0)), .ex (pOp opAdd [.bor 2, .ex (pC (.int 1))]), .ex (pC .non)]) (pTup [.ex (pVar 3), .ex (pVar 1), .ex (pOp opIx [.ex (pOp (opFld 1 "many") [.bor 0]), .ex (pOp opNeg [.ex (pC (.int 1))])]), .ex (pC .non)]))))
theorem sn27 {sc : SC} {T : Tab} {U : PTab} (hT : TSnd sc T U) : SS sc (d27 T) (p27 U) :=
  ss_seq (ss_for (si_rg1 (sl_ex (se_bin snd_sub (sl_ex (se_B snd_len (sl_ex (se_fld (sl_bor (sl_nil))) (sl_nil))) (sl_ex (se_int) (sl_nil)))) (sl_nil))) (sn27_b0 hT))
    (ss_seq (ss_set (se_bin snd_sub (sl_ex (se_B snd_len (sl_ex (se_fld (sl_bor (sl_nil))) (sl_nil))) (sl_ex (se_int) (sl_nil)))))
    (ss_ret (se_if (st_of (se_bin (snd_eq false) (sl_ex (se_meth hT (se_fld (sl_bor (sl_nil))) (sl_nil)) (sl_ex (se_str) (sl_nil))))) (se_tup (sl_ex (se_var) (sl_ex (se_int) (sl_ex (se_bin snd_add (sl_bor (sl_ex (se_int) (sl_nil)))) (sl_ex (se_non) (sl_nil)))))) (se_tup (sl_ex (se_var) (sl_ex (se_var) (sl_ex (se_bin snd_ix (sl_ex (se_fld (sl_bor (sl_nil))) (sl_ex (se_un snd_neg (sl_ex (se_int) (sl_nil))) (sl_nil)))) (sl_ex (se_non) (sl_nil)))))))))
/-- Rows(plan:sh, n:sh); names ['plan', 'n', '(new)'] -/
def p28 (U : PTab) : PStm :=
  pMk U 1 20 2 [.bor 2, .ex (pVar 0), .ex (pVar 1)] [false, false]
theorem sn28 {sc : SC} {T : Tab} {U : PTab} (hT : TSnd sc T U) : SS sc (d28 T) (p28 U) :=
  ss_mk hT (sl_bor (sl_ex se_var (sl_ex se_var (sl_nil))))
def p29_q0 (U : PTab) : PStop := pAnd (pTof (pOp opGt [.ex (pOp opSub [.bor 3, .bor 2]), .ex (pC (.int 1))])) (pTof (pOp (opIs true) [.ex (pMeth U 43 0 "stage" (pVar 0) [.bor 4] [false]), .ex (pC .non)]))
theorem sn29_q0 {sc : SC} {T : Tab} {U : PTab} (hT : TSnd sc T U) : ST sc (d29_q0 T) (p29_q0 U) := st_an (st_of (se_bin snd_gt (sl_ex (se_bin snd_sub (sl_bor (sl_bor (sl_nil)))) (sl_ex (se_int) (sl_nil))))) (st_of (se_bin (snd_is true) (sl_ex (se_meth hT (se_var) (sl_bor (sl_nil))) (sl_ex (se_non) (sl_nil)))))
def p29_b0 (U : PTab) : PStm := pSeq (pSet 5 (pMeth U 43 0 "stage" (pVar 0) [.bor 4] [false])) (pSeq (pSet 6 (pCall U 7 [.bor 5] [false])) (pSeq (pSet 7 (pOp opMul [.ex (pOp opFdiv [.bor 2, .bor 6]), .bor 6])) (pSeq (pIf (pTof (pOp (opEq false) [.bor 7, .ex (pOp opMul [.ex (pOp opFdiv [.ex (pOp opSub [.bor 3, .ex (pC (.int 1))]), .bor 6]), .bor 6])])) (pRet (pOp (opIn false) [.ex (pTup [.ex (pOp opSub [.bor 2, .bor 7]), .ex (pOp opSub [.bor 3, .bor 7])]), .ex (pCall U 15 [.ex (pCall U 8 [.bor 5, .ex (pOp opMin [.bor 6, .ex (pOp opSub [.bor 1, .bor 7])])] [false, false])] [false])])) (pSkip)) (pSeq (pIf (pOrr (pTof (pOp (opEq true) [.bor 2, .bor 7])) (pAnd (pTof (pOp (opEq true) [.ex (pOp opMod [.bor 3, .bor 6]), .ex (pC (.int 0))])) (pTof (pOp (opEq true) [.bor 3, .bor 1])))) (pRet (pC (.bl false))) (pSkip)) (pSeq (pPar [2, 3, 1] [pOp opFdiv [.bor 2, .bor 6], pOp opFdiv [.ex (pOp opSub [.ex (pOp opAdd [.bor 3, .bor 6]), .ex (pC (.int 1))]), .bor 6], pOp opFdiv [.ex (pOp opSub [.ex (pOp opAdd [.bor 1, .bor 6]), .ex (pC (.int 1))]), .bor 6]]) (pAug 4 opAddI (pC (.int 1))))))))
theorem sn29_b0 {sc : SC} {T : Tab} {U : PTab} (hT : TSnd sc T U) : SS sc (d29_b0 T) (p29_b0 U) := ss_seq (ss_set (se_meth hT (se_var) (sl_bor (sl_nil))))
    (ss_seq (ss_set (se_call hT (sl_bor (sl_nil))))
    (ss_seq (ss_set (se_bin snd_mul (sl_ex (se_bin snd_fdiv (sl_bor (sl_bor (sl_nil)))) (sl_bor (sl_nil)))))
    (ss_seq (ss_if (st_of (se_bin (snd_eq false) (sl_bor (sl_ex (se_bin snd_mul (sl_ex (se_bin snd_fdiv (sl_ex (se_bin snd_sub (sl_bor (sl_ex (se_int) (sl_nil)))) (sl_bor (sl_nil)))) (sl_bor (sl_nil)))) (sl_nil))))) (ss_ret (se_bin (snd_in false) (sl_ex (se_tup (sl_ex (se_bin snd_sub (sl_bor (sl_bor (sl_nil)))) (sl_ex (se_bin snd_sub (sl_bor (sl_bor (sl_nil)))) (sl_nil)))) (sl_ex (se_call hT (sl_ex (se_call hT (sl_bor (sl_ex (se_B snd_min (sl_bor (sl_ex (se_bin snd_sub (sl_bor (sl_bor (sl_nil)))) (sl_nil)))) (sl_nil)))) (sl_nil))) (sl_nil))))) (ss_skip))
    (ss_seq (ss_if (st_or (st_of (se_bin (snd_eq true) (sl_bor (sl_bor (sl_nil))))) (st_an (st_of (se_bin (snd_eq true) (sl_ex (se_bin snd_mod (sl_bor (sl_bor (sl_nil)))) (sl_ex (se_int) (sl_nil))))) (st_of (se_bin (snd_eq true) (sl_bor (sl_bor (sl_nil))))))) (ss_ret (se_bl)) (ss_skip))
    (ss_seq (ss_par (sv2_cons (se_bin snd_fdiv (sl_bor (sl_bor (sl_nil)))) (sv2_cons (se_bin snd_fdiv (sl_ex (se_bin snd_sub (sl_ex (se_bin snd_add (sl_bor (sl_bor (sl_nil)))) (sl_ex (se_int) (sl_nil)))) (sl_bor (sl_nil)))) (sv2_cons (se_bin snd_fdiv (sl_ex (se_bin snd_sub (sl_ex (se_bin snd_add (sl_bor (sl_bor (sl_nil)))) (sl_ex (se_int) (sl_nil)))) (sl_bor (sl_nil)))) (sv2_nil)))))
    (ss_aug snd_addI (se_int)))))))
/-- are_lump_numbers(plan:sh, n:sh, i:sh, j:sh); names ['plan', 'n', 'i', 'j', 'level', 'table', 'size', 'first'] -/
def p29 (U : PTab) : PStm :=
  pSeq (pSet 4 (pC (.int 0))) (pSeq (pWhile (p29_q0 U) (p29_b0 U) WFU) (pRet (pOrE (pOp (opEq false) [.ex (pOp opSub [.bor 3, .bor 2]), .ex (pC (.int 1))]) (pIfE (pTof (pOp (opEq false) [.ex (pMeth U 42 0 "end" (pVar 0) [] []), .ex (pC (.str "left"))])) (pOp (opEq false) [.bor 2, .ex (pC (.int 0))]) (pOp (opEq false) [.bor 3, .bor 1])))))
theorem sn29 {sc : SC} {T : Tab} {U : PTab} (hT : TSnd sc T U) : SS sc (d29 T) (p29 U) :=
  ss_seq (ss_set (se_int))
    (ss_seq (ss_while WFU WFU_le (sn29_q0 hT) (sn29_b0 hT))
    (ss_ret (se_orr (se_bin (snd_eq false) (sl_ex (se_bin snd_sub (sl_bor (sl_bor (sl_nil)))) (sl_ex (se_int) (sl_nil)))) (se_if (st_of (se_bin (snd_eq false) (sl_ex (se_meth hT (se_var) (sl_nil)) (sl_ex (se_str) (sl_nil))))) (se_bin (snd_eq false) (sl_bor (sl_ex (se_int) (sl_nil)))) (se_bin (snd_eq false) (sl_bor (sl_bor (sl_nil))))))))
/-- is_lump(plan:sh, n:sh, i:sh, j:sh); names ['plan', 'n', 'i', 'j'] -/
def p30 (U : PTab) : PStm :=
  pRet (pAnE (pCall U 1 [.bor 2] [false]) (pAnE (pCall U 1 [.bor 3] [false]) (pAnE (pChn opLt opLe (pVar 2) (pVar 3) (pVar 1)) (pCall U 29 [.ex (pVar 0), .ex (pVar 1), .ex (pVar 2), .ex (pVar 3)] [false, false, false, false]))))
theorem sn30 {sc : SC} {T : Tab} {U : PTab} (hT : TSnd sc T U) : SS sc (d30 T) (p30 U) :=
  ss_ret (se_an (se_call hT (sl_bor (sl_nil))) (se_an (se_call hT (sl_bor (sl_nil))) (se_an (se_chn snd_lt snd_le (se_var) (se_var) (se_var)) (se_call hT (sl_ex (se_var) (sl_ex (se_var) (sl_ex (se_var) (sl_ex (se_var) (sl_nil)))))))))
def p31_b0 (U : PTab) : PStm := pSeq (pSet 6 (pMeth U 25 1 "parts" (pVar 3) [.ex (pVar 4)] [false])) (pSeq (pIf (pOrr (pNt (pTru [.ex (pCall U 1 [.bor 5] [false])])) (pOrr (pTof (pOp opGt [.bor 5, .ex (pC (.int 1))])) (pTof (pOp (opEq false) [.bor 6, .ex (pLst [])])))) (pRet (pC .non)) (pSkip)) (pSet 4 (pOp opIx [.bor 6, .bor 5])))
theorem sn31_b0 {sc : SC} {T : Tab} {U : PTab} (hT : TSnd sc T U) : SS sc (d31_b0 T) (p31_b0 U) := ss_seq (ss_set (se_meth hT (se_var) (sl_ex (se_var) (sl_nil))))
    (ss_seq (ss_if (st_or (st_not (st_tru (sl_ex (se_call hT (sl_bor (sl_nil))) (sl_nil)))) (st_or (st_of (se_bin snd_gt (sl_bor (sl_ex (se_int) (sl_nil))))) (st_of (se_bin (snd_eq false) (sl_bor (sl_ex (se_lst (sl_nil)) (sl_nil))))))) (ss_ret (se_non)) (ss_skip))
    (ss_set (se_bin snd_ix (sl_bor (sl_bor (sl_nil))))))
/-- lump_at(plan:sh, n:sh, path:sh); names ['plan', 'n', 'path', 'rows', 'node', 'step', 'parts'] -/
def p31 (U : PTab) : PStm :=
  pSeq (pIf (pNt (pTru [.ex (pOp opIsi [.bor 2, .ex (pC (.cst (.ty "tuple")))])])) (pRet (pC .non)) (pSkip)) (pSeq (pSet 3 (pCall U 28 [.ex (pVar 0), .ex (pVar 1)] [false, false])) (pSeq (pSet 4 (pMeth U 24 1 "root" (pVar 3) [] [])) (pSeq (pFor (pItE (pVar 2)) (.nm 5) (p31_b0 U)) (pRet (pMeth U 21 1 "places" (pVar 3) [.ex (pVar 4)] [false])))))
theorem sn31 {sc : SC} {T : Tab} {U : PTab} (hT : TSnd sc T U) : SS sc (d31 T) (p31 U) :=
  ss_seq (ss_if (st_not (st_tru (sl_ex (se_B snd_isi (sl_bor (sl_ex (se_cst) (sl_nil)))) (sl_nil)))) (ss_ret (se_non)) (ss_skip))
    (ss_seq (ss_set (se_call hT (sl_ex (se_var) (sl_ex (se_var) (sl_nil)))))
    (ss_seq (ss_set (se_meth hT (se_var) (sl_nil)))
    (ss_seq (ss_for (si_val (se_var)) (sn31_b0 hT))
    (ss_ret (se_meth hT (se_var) (sl_ex (se_var) (sl_nil)))))))
def p32_q0 (U : PTab) : PStop := pTof (pOp (opEq true) [.ex (pMeth U 21 1 "places" (pVar 4) [.ex (pVar 6)] [false]), .ex (pTup [.ex (pVar 2), .ex (pVar 3)])])
theorem sn32_q0 {sc : SC} {T : Tab} {U : PTab} (hT : TSnd sc T U) : ST sc (d32_q0 T) (p32_q0 U) := st_of (se_bin (snd_eq true) (sl_ex (se_meth hT (se_var) (sl_ex (se_var) (sl_nil))) (sl_ex (se_tup (sl_ex (se_var) (sl_ex (se_var) (sl_nil)))) (sl_nil))))
def p32_b0 (U : PTab) : PStm := pSeq (pIf (pTof (pOp (opEq false) [.ex (pOp opLen [.bor 5]), .ex (pC (.int 400))])) (pBad) (pSkip)) (pSeq (pAsg (.tp [.nm 7, .nm 8]) (pMeth U 25 1 "parts" (pVar 4) [.ex (pVar 6)] [false])) (pSeq (pExpr (pMut 5 mopAppend [.ex (pIfE (pTof (pOp opLe [.bor 3, .ex (pOp opIx [.ex (pMeth U 21 1 "places" (pVar 4) [.ex (pVar 7)] [false]), .ex (pC (.int 1))])])) (pC (.int 0)) (pC (.int 1)))])) (pSet 6 (pOp opIx [.ex (pTup [.ex (pVar 7), .ex (pVar 8)]), .ex (pOp opIx [.bor 5, .ex (pOp opNeg [.ex (pC (.int 1))])])]))))
theorem sn32_b0 {sc : SC} {T : Tab} {U : PTab} (hT : TSnd sc T U) : SS sc (d32_b0 T) (p32_b0 U) := ss_seq (ss_if (st_of (se_bin (snd_eq false) (sl_ex (se_B snd_len (sl_bor (sl_nil))) (sl_ex (se_int) (sl_nil))))) (ss_bad) (ss_skip))
    (ss_seq (ss_asg (se_meth hT (se_var) (sl_ex (se_var) (sl_nil))))
    (ss_seq (ss_expr (se_mut msnd_append (sl_ex (se_if (st_of (se_bin snd_le (sl_bor (sl_ex (se_bin snd_ix (sl_ex (se_meth hT (se_var) (sl_ex (se_var) (sl_nil))) (sl_ex (se_int) (sl_nil)))) (sl_nil))))) (se_int) (se_int)) (sl_nil))))
    (ss_set (se_bin snd_ix (sl_ex (se_tup (sl_ex (se_var) (sl_ex (se_var) (sl_nil)))) (sl_ex (se_bin snd_ix (sl_bor (sl_ex (se_un snd_neg (sl_ex (se_int) (sl_nil))) (sl_nil)))) (sl_nil)))))))
/-- path_of(plan:sh, n:sh, i:sh, j:sh); names ['plan', 'n', 'i', 'j', 'rows', 'path', 'node', 'left', 'right'] -/
def p32 (U : PTab) : PStm :=
  pSeq (pIf (pNt (pTru [.ex (pCall U 30 [.ex (pVar 0), .ex (pVar 1), .ex (pVar 2), .ex (pVar 3)] [false, false, false, false])])) (pRet (pC .non)) (pSkip)) (pSeq (pPar [4, 5] [pCall U 28 [.ex (pVar 0), .ex (pVar 1)] [false, false], pLst []]) (pSeq (pSet 6 (pMeth U 24 1 "root" (pVar 4) [] [])) (pSeq (pWhile (p32_q0 U) (p32_b0 U) WFU) (pRet (pOp opTuple [.bor 5])))))
theorem sn32 {sc : SC} {T : Tab} {U : PTab} (hT : TSnd sc T U) : SS sc (d32 T) (p32 U) :=
  ss_seq (ss_if (st_not (st_tru (sl_ex (se_call hT (sl_ex (se_var) (sl_ex (se_var) (sl_ex (se_var) (sl_ex (se_var) (sl_nil)))))) (sl_nil)))) (ss_ret (se_non)) (ss_skip))
    (ss_seq (ss_par (sv2_cons (se_call hT (sl_ex (se_var) (sl_ex (se_var) (sl_nil)))) (sv2_cons (se_lst (sl_nil)) (sv2_nil))))
    (ss_seq (ss_set (se_meth hT (se_var) (sl_nil)))
    (ss_seq (ss_while WFU WFU_le (sn32_q0 hT) (sn32_b0 hT))
    (ss_ret (se_B snd_tuple (sl_bor (sl_nil)))))))
def p33_b0 (U : PTab) : PStm := pIf (pOrr (pNt (pTru [.ex (pCall U 1 [.bor 2] [false])])) (pTof (pOp opGe [.bor 2, .bor 0]))) (pBad) (pSkip)
theorem sn33_b0 {sc : SC} {T : Tab} {U : PTab} (hT : TSnd sc T U) : SS sc (d33_b0 T) (p33_b0 U) := ss_if (st_or (st_not (st_tru (sl_ex (se_call hT (sl_bor (sl_nil))) (sl_nil)))) (st_of (se_bin snd_ge (sl_bor (sl_bor (sl_nil)))))) (ss_bad) (ss_skip)
/-- need_places(n:lk, values:sh); names ['n', 'values', 'value'] -/
def p33 (U : PTab) : PStm :=
  pFor (pItE (pVar 1)) (.nm 2) (p33_b0 U)
theorem sn33 {sc : SC} {T : Tab} {U : PTab} (hT : TSnd sc T U) : SS sc (d33 T) (p33 U) :=
  ss_for (si_val (se_var)) (sn33_b0 hT)
/-- least_lump(plan:sh, n:sh, i:sh, j:sh); names ['plan', 'n', 'i', 'j', 'rows'] -/
def p34 (U : PTab) : PStm :=
  pSeq (pExpr (pCall U 33 [.bor 1, .ex (pTup [.ex (pVar 2), .ex (pVar 3)])] [false, false])) (pSeq (pSet 4 (pCall U 28 [.ex (pVar 0), .ex (pVar 1)] [false, false])) (pRet (pIfE (pTof (pOp (opEq false) [.bor 2, .bor 3])) (pTup [.ex (pVar 2), .ex (pOp opAdd [.bor 2, .ex (pC (.int 1))])]) (pMeth U 21 1 "places" (pVar 4) [.ex (pMeth U 27 1 "least" (pVar 4) [.ex (pOp opMin [.bor 2, .bor 3]), .ex (pOp opMax [.bor 2, .bor 3])] [false, false])] [false]))))
theorem sn34 {sc : SC} {T : Tab} {U : PTab} (hT : TSnd sc T U) : SS sc (d34 T) (p34 U) :=
  ss_seq (ss_expr (se_call hT (sl_bor (sl_ex (se_tup (sl_ex (se_var) (sl_ex (se_var) (sl_nil)))) (sl_nil)))))
    (ss_seq (ss_set (se_call hT (sl_ex (se_var) (sl_ex (se_var) (sl_nil)))))
    (ss_ret (se_if (st_of (se_bin (snd_eq false) (sl_bor (sl_bor (sl_nil))))) (se_tup (sl_ex (se_var) (sl_ex (se_bin snd_add (sl_bor (sl_ex (se_int) (sl_nil)))) (sl_nil)))) (se_meth hT (se_var) (sl_ex (se_meth hT (se_var) (sl_ex (se_B snd_min (sl_bor (sl_bor (sl_nil)))) (sl_ex (se_B snd_max (sl_bor (sl_bor (sl_nil)))) (sl_nil)))) (sl_nil))))))
def p35_e0 (U : PTab) : PExp := pMeth U 21 1 "places" (pVar 4) [.ex (pVar 7)] [false]
theorem sn35_e0 {sc : SC} {T : Tab} {U : PTab} (hT : TSnd sc T U) : SE sc (d35_e0 T) (p35_e0 U) := se_meth hT (se_var) (sl_ex (se_var) (sl_nil))
/-- crossing(plan:sh, n:sh, i:sh, j:sh); names ['plan', 'n', 'i', 'j', 'rows', 'left', 'right', 'part'] -/
def p35 (U : PTab) : PStm :=
  pSeq (pIf (pTru [.ex (pCall U 30 [.ex (pVar 0), .ex (pVar 1), .ex (pVar 2), .ex (pVar 3)] [false, false, false, false])]) (pRet (pC .non)) (pSkip)) (pSeq (pSet 4 (pCall U 28 [.ex (pVar 0), .ex (pVar 1)] [false, false])) (pSeq (pAsg (.tp [.nm 5, .nm 6]) (pLc (pItE (pMeth U 25 1 "parts" (pVar 4) [.ex (pMeth U 27 1 "least" (pVar 4) [.ex (pVar 2), .ex (pOp opSub [.bor 3, .ex (pC (.int 1))])] [false, false])] [false])) (.nm 7) [7] (pYes) (p35_e0 U))) (pRet (pIfE (pTof (pOp opLt [.ex (pOp opIx [.bor 5, .ex (pC (.int 0))]), .bor 2])) (pVar 5) (pVar 6)))))
theorem sn35 {sc : SC} {T : Tab} {U : PTab} (hT : TSnd sc T U) : SS sc (d35 T) (p35 U) :=
  ss_seq (ss_if (st_tru (sl_ex (se_call hT (sl_ex (se_var) (sl_ex (se_var) (sl_ex (se_var) (sl_ex (se_var) (sl_nil)))))) (sl_nil))) (ss_ret (se_non)) (ss_skip))
    (ss_seq (ss_set (se_call hT (sl_ex (se_var) (sl_ex (se_var) (sl_nil)))))
    (ss_seq (ss_asg (se_lc (si_val (se_meth hT (se_var) (sl_ex (se_meth hT (se_var) (sl_ex (se_var) (sl_ex (se_bin snd_sub (sl_bor (sl_ex (se_int) (sl_nil)))) (sl_nil)))) (sl_nil)))) (st_yes) ((sn35_e0 hT))))
    (ss_ret (se_if (st_of (se_bin snd_lt (sl_ex (se_bin snd_ix (sl_bor (sl_ex (se_int) (sl_nil)))) (sl_bor (sl_nil))))) (se_var) (se_var)))))
def p36_q0 (U : PTab) : PStop := pTof (pChn opLe opLt (pOp opIx [.bor 10, .ex (pC (.int 0))]) (pOp opSub [.bor 2, .bor 7]) (pOp opIx [.bor 10, .ex (pC (.int 1))]))
theorem sn36_q0 {sc : SC} {T : Tab} {U : PTab} (hT : TSnd sc T U) : ST sc (d36_q0 T) (p36_q0 U) := st_of (se_chn snd_le snd_lt (se_bin snd_ix (sl_bor (sl_ex (se_int) (sl_nil)))) (se_bin snd_sub (sl_bor (sl_bor (sl_nil)))) (se_bin snd_ix (sl_bor (sl_ex (se_int) (sl_nil)))))
def p36_e0 (U : PTab) : PExp := pVar 10
theorem sn36_e0 {sc : SC} {T : Tab} {U : PTab} (hT : TSnd sc T U) : SE sc (d36_e0 T) (p36_e0 U) := se_var
def p36_b0 (U : PTab) : PStm := pSeq (pSet 6 (pCall U 7 [.ex (pMeth U 43 0 "stage" (pVar 0) [.bor 5] [false])] [false])) (pSeq (pAsg (.tp [.nm 7, .nm 8, .nm 9]) (pMeth U 22 1 "stretch" (pVar 3) [.ex (pVar 5), .ex (pOp opFdiv [.bor 2, .bor 6])] [false, false])) (pSeq (pAug 4 opAddI (pOp opSub [.ex (pOp opLen [.ex (pLc (pItE (pCall U 15 [.ex (pVar 9)] [false])) (.nm 10) [10] (p36_q0 U) (p36_e0 U))]), .ex (pC (.int 1))])) (pSet 2 (pOp opFdiv [.bor 2, .bor 6]))))
theorem sn36_b0 {sc : SC} {T : Tab} {U : PTab} (hT : TSnd sc T U) : SS sc (d36_b0 T) (p36_b0 U) := ss_seq (ss_set (se_call hT (sl_ex (se_meth hT (se_var) (sl_bor (sl_nil))) (sl_nil))))
    (ss_seq (ss_asg (se_meth hT (se_var) (sl_ex (se_var) (sl_ex (se_bin snd_fdiv (sl_bor (sl_bor (sl_nil)))) (sl_nil)))))
    (ss_seq (ss_aug snd_addI (se_bin snd_sub (sl_ex (se_B snd_len (sl_ex (se_lc (si_val (se_call hT (sl_ex (se_var) (sl_nil)))) ((sn36_q0 hT)) ((sn36_e0 hT))) (sl_nil))) (sl_ex (se_int) (sl_nil)))))
    (ss_set (se_bin snd_fdiv (sl_bor (sl_bor (sl_nil)))))))
/-- depth(plan:sh, n:sh, i:sh); names ['plan', 'n', 'i', 'rows', 'found', 'level', 'size', 'first', 'many', 'form', 'pair'] -/
def p36 (U : PTab) : PStm :=
  pSeq (pExpr (pCall U 33 [.bor 1, .ex (pTup [.ex (pVar 2)])] [false, false])) (pSeq (pPar [3, 4] [pCall U 28 [.ex (pVar 0), .ex (pVar 1)] [false, false], pC (.int 0)]) (pSeq (pFor (pItB rg1P [.ex (pOp opSub [.ex (pOp opLen [.ex (pOp (opFld 1 "many") [.bor 3])]), .ex (pC (.int 1))])]) (.nm 5) (p36_b0 U)) (pSeq (pSet 8 (pOp opIx [.ex (pOp (opFld 1 "many") [.bor 3]), .ex (pOp opNeg [.ex (pC (.int 1))])])) (pSeq (pIf (pTof (pOp (opEq false) [.bor 8, .ex (pC (.int 1))])) (pRetV 4) (pSkip)) (pSeq (pIf (pTof (pOp (opEq false) [.ex (pMeth U 42 0 "end" (pVar 0) [] []), .ex (pC (.str "left"))])) (pRet (pOp opAdd [.bor 4, .ex (pOp opMin [.ex (pOp opSub [.bor 8, .ex (pC (.int 1))]), .ex (pOp opSub [.bor 8, .bor 2])])])) (pSkip)) (pRet (pOp opAdd [.bor 4, .ex (pOp opMin [.ex (pOp opSub [.bor 8, .ex (pC (.int 1))]), .ex (pOp opAdd [.bor 2, .ex (pC (.int 1))])])])))))))
theorem sn36 {sc : SC} {T : Tab} {U : PTab} (hT : TSnd sc T U) : SS sc (d36 T) (p36 U) :=
  ss_seq (ss_expr (se_call hT (sl_bor (sl_ex (se_tup (sl_ex (se_var) (sl_nil))) (sl_nil)))))
    (ss_seq (ss_par (sv2_cons (se_call hT (sl_ex (se_var) (sl_ex (se_var) (sl_nil)))) (sv2_cons (se_int) (sv2_nil))))
    (ss_seq (ss_for (si_rg1 (sl_ex (se_bin snd_sub (sl_ex (se_B snd_len (sl_ex (se_fld (sl_bor (sl_nil))) (sl_nil))) (sl_ex (se_int) (sl_nil)))) (sl_nil))) (sn36_b0 hT))
    (ss_seq (ss_set (se_bin snd_ix (sl_ex (se_fld (sl_bor (sl_nil))) (sl_ex (se_un snd_neg (sl_ex (se_int) (sl_nil))) (sl_nil)))))
    (ss_seq (ss_if (st_of (se_bin (snd_eq false) (sl_bor (sl_ex (se_int) (sl_nil))))) (ss_retV) (ss_skip))
    (ss_seq (ss_if (st_of (se_bin (snd_eq false) (sl_ex (se_meth hT (se_var) (sl_nil)) (sl_ex (se_str) (sl_nil))))) (ss_ret (se_bin snd_add (sl_bor (sl_ex (se_B snd_min (sl_ex (se_bin snd_sub (sl_bor (sl_ex (se_int) (sl_nil)))) (sl_ex (se_bin snd_sub (sl_bor (sl_bor (sl_nil)))) (sl_nil)))) (sl_nil))))) (ss_skip))
    (ss_ret (se_bin snd_add (sl_bor (sl_ex (se_B snd_min (sl_ex (se_bin snd_sub (sl_bor (sl_ex (se_int) (sl_nil)))) (sl_ex (se_bin snd_add (sl_bor (sl_ex (se_int) (sl_nil)))) (sl_nil)))) (sl_nil))))))))))
def p37_b0 (U : PTab) : PStm := pSeq (pSet 3 (pCall U 6 [.ex (pVar 2)] [false])) (pIf (pTof (pOp (opIs true) [.bor 3, .ex (pC .non)])) (pRet (pTup [.ex (pVar 1), .stb 3])) (pSkip))
theorem sn37_b0 {sc : SC} {T : Tab} {U : PTab} (hT : TSnd sc T U) : SS sc (d37_b0 T) (p37_b0 U) := ss_seq (ss_set (se_call hT (sl_ex (se_var) (sl_nil))))
    (ss_if (st_of (se_bin (snd_is true) (sl_bor (sl_ex (se_non) (sl_nil))))) (ss_ret (se_tup (sl_ex (se_var) (sl_stb (sl_nil))))) (ss_skip))
/-- wrong_member(tables:sh); names ['tables', 'k', 'table', 'path'] -/
def p37 (U : PTab) : PStm :=
  pSeq (pFor (pItV enumP [.ex (pVar 0)]) (.tp [.nm 1, .nm 2]) (p37_b0 U)) (pRet (pC .non))
theorem sn37 {sc : SC} {T : Tab} {U : PTab} (hT : TSnd sc T U) : SS sc (d37 T) (p37 U) :=
  ss_seq (ss_for (si_enum (sl_ex (se_var) (sl_nil))) (sn37_b0 hT))
    (ss_ret (se_non))
/-- wrong_plan(tables:sh, end:sh); names ['tables', 'end', 'path'] -/
def p38 (U : PTab) : PStm :=
  pSeq (pIf (pNt (pTru [.ex (pOp opIsi [.bor 0, .ex (pTup [.ex (pC (.cst (.ty "list"))), .ex (pC (.cst (.ty "tuple")))])])])) (pRet (pTup [.ex (pC (.int 0))])) (pSkip)) (pSeq (pSet 2 (pCall U 37 [.ex (pVar 0)] [false])) (pSeq (pIf (pTof (pOp (opIs true) [.bor 2, .ex (pC .non)])) (pRet (pTup [.ex (pC (.int 0)), .stb 2])) (pSkip)) (pSeq (pIf (pAnd (pTru [.ex (pOp opIsi [.bor 1, .ex (pC (.cst (.ty "str")))])]) (pTof (pOp (opInC false ["left", "right"]) [.bor 1]))) (pRet (pC .non)) (pSkip)) (pSeq (pIf (pOrr (pNt (pTru [.ex (pOp opIsi [.bor 1, .ex (pC (.cst (.ty "tuple")))])])) (pTof (pOp (opEq false) [.bor 1, .ex (pTup [])]))) (pRet (pTup [.ex (pC (.int 1))])) (pSkip)) (pSeq (pSet 2 (pCall U 37 [.ex (pVar 1)] [false])) (pRet (pIfE (pTof (pOp (opIs false) [.bor 2, .ex (pC .non)])) (pC .non) (pTup [.ex (pC (.int 1)), .stb 2]))))))))
theorem sn38 {sc : SC} {T : Tab} {U : PTab} (hT : TSnd sc T U) : SS sc (d38 T) (p38 U) :=
  ss_seq (ss_if (st_not (st_tru (sl_ex (se_B snd_isi (sl_bor (sl_ex (se_tup (sl_ex (se_cst) (sl_ex (se_cst) (sl_nil)))) (sl_nil)))) (sl_nil)))) (ss_ret (se_tup (sl_ex (se_int) (sl_nil)))) (ss_skip))
    (ss_seq (ss_set (se_call hT (sl_ex (se_var) (sl_nil))))
    (ss_seq (ss_if (st_of (se_bin (snd_is true) (sl_bor (sl_ex (se_non) (sl_nil))))) (ss_ret (se_tup (sl_ex (se_int) (sl_stb (sl_nil))))) (ss_skip))
    (ss_seq (ss_if (st_an (st_tru (sl_ex (se_B snd_isi (sl_bor (sl_ex (se_cst) (sl_nil)))) (sl_nil))) (st_of (se_inC (sl_bor (sl_nil))))) (ss_ret (se_non)) (ss_skip))
    (ss_seq (ss_if (st_or (st_not (st_tru (sl_ex (se_B snd_isi (sl_bor (sl_ex (se_cst) (sl_nil)))) (sl_nil)))) (st_of (se_bin (snd_eq false) (sl_bor (sl_ex (se_tup (sl_nil)) (sl_nil)))))) (ss_ret (se_tup (sl_ex (se_int) (sl_nil)))) (ss_skip))
    (ss_seq (ss_set (se_call hT (sl_ex (se_var) (sl_nil))))
    (ss_ret (se_if (st_of (se_bin (snd_is false) (sl_bor (sl_ex (se_non) (sl_nil))))) (se_non) (se_tup (sl_ex (se_int) (sl_stb (sl_nil)))))))))))
/-- Plan.__init__(self:io, tables:sh, end:sh); names ['self', 'tables', 'end', 'path'] -/
def p39 (U : PTab) : PStm :=
  pSeq (pSet 3 (pCall U 38 [.ex (pVar 1), .ex (pVar 2)] [false, false])) (pSeq (pIf (pTof (pOp (opIs true) [.bor 3, .ex (pC .non)])) (pBad) (pSkip)) (pSeq (pFldS 0 "own_tables" 0 (pOp opTuple [.bor 1])) (pFldS 0 "own_end" 0 (pVar 2))))
theorem sn39 {sc : SC} {T : Tab} {U : PTab} (hT : TSnd sc T U) : SS sc (d39 T) (p39 U) :=
  ss_seq (ss_set (se_call hT (sl_ex (se_var) (sl_ex (se_var) (sl_nil)))))
    (ss_seq (ss_if (st_of (se_bin (snd_is true) (sl_bor (sl_ex (se_non) (sl_nil))))) (ss_bad) (ss_skip))
    (ss_seq (ss_fldS (se_B snd_tuple (sl_bor (sl_nil))))
    (ss_fldS (se_var))))
/-- Plan.__eq__(self:lk, other:lk); names ['self', 'other'] -/
def p40 (U : PTab) : PStm :=
  pRet (pAnE (pOp (opIsC 0) [.bor 1]) (pOp (opEq false) [.ex (pTup [.ex (pOp (opFld 0 "own_tables") [.bor 0]), .ex (pOp (opFld 0 "own_end") [.bor 0])]), .ex (pTup [.ex (pOp (opFld 0 "own_tables") [.bor 1]), .ex (pOp (opFld 0 "own_end") [.bor 1])])]))
theorem sn40 {sc : SC} {T : Tab} {U : PTab} (hT : TSnd sc T U) : SS sc (d40 T) (p40 U) :=
  ss_ret (se_an (se_isC (sl_bor (sl_nil))) (se_bin (snd_eq false) (sl_ex (se_tup (sl_ex (se_fld (sl_bor (sl_nil))) (sl_ex (se_fld (sl_bor (sl_nil))) (sl_nil)))) (sl_ex (se_tup (sl_ex (se_fld (sl_bor (sl_nil))) (sl_ex (se_fld (sl_bor (sl_nil))) (sl_nil)))) (sl_nil)))))
/-- Plan.tables(self:lk); names ['self'] -/
def p41 (U : PTab) : PStm :=
  pRet (pOp (opFld 0 "own_tables") [.bor 0])
theorem sn41 {sc : SC} {T : Tab} {U : PTab} (hT : TSnd sc T U) : SS sc (d41 T) (p41 U) :=
  ss_ret (se_fld (sl_bor (sl_nil)))
/-- Plan.end(self:lk); names ['self'] -/
def p42 (U : PTab) : PStm :=
  pRet (pOp (opFld 0 "own_end") [.bor 0])
theorem sn42 {sc : SC} {T : Tab} {U : PTab} (hT : TSnd sc T U) : SS sc (d42 T) (p42 U) :=
  ss_ret (se_fld (sl_bor (sl_nil)))
/-- Plan.stage(self:lk, k:lk); names ['self', 'k'] -/
def p43 (U : PTab) : PStm :=
  pSeq (pIf (pTof (pOp opLt [.bor 1, .ex (pOp opLen [.ex (pOp (opFld 0 "own_tables") [.bor 0])])])) (pRet (pOp opIx [.ex (pOp (opFld 0 "own_tables") [.bor 0]), .bor 1])) (pSkip)) (pSeq (pIf (pTof (pOp (opInC false ["left", "right"]) [.ex (pOp (opFld 0 "own_end") [.bor 0])])) (pRet (pC .non)) (pSkip)) (pRet (pOp opIx [.ex (pOp (opFld 0 "own_end") [.bor 0]), .ex (pOp opMod [.ex (pOp opSub [.bor 1, .ex (pOp opLen [.ex (pOp (opFld 0 "own_tables") [.bor 0])])]), .ex (pOp opLen [.ex (pOp (opFld 0 "own_end") [.bor 0])])])])))
theorem sn43 {sc : SC} {T : Tab} {U : PTab} (hT : TSnd sc T U) : SS sc (d43 T) (p43 U) :=
  ss_seq (ss_if (st_of (se_bin snd_lt (sl_bor (sl_ex (se_B snd_len (sl_ex (se_fld (sl_bor (sl_nil))) (sl_nil))) (sl_nil))))) (ss_ret (se_bin snd_ix (sl_ex (se_fld (sl_bor (sl_nil))) (sl_bor (sl_nil))))) (ss_skip))
    (ss_seq (ss_if (st_of (se_inC (sl_ex (se_fld (sl_bor (sl_nil))) (sl_nil)))) (ss_ret (se_non)) (ss_skip))
    (ss_ret (se_bin snd_ix (sl_ex (se_fld (sl_bor (sl_nil))) (sl_ex (se_bin snd_mod (sl_ex (se_bin snd_sub (sl_bor (sl_ex (se_B snd_len (sl_ex (se_fld (sl_bor (sl_nil))) (sl_nil))) (sl_nil)))) (sl_ex (se_B snd_len (sl_ex (se_fld (sl_bor (sl_nil))) (sl_nil))) (sl_nil)))) (sl_nil))))))
/-- Plan(tables:sh, end:sh); names ['tables', 'end', '(new)'] -/
def p44 (U : PTab) : PStm :=
  pMk U 0 39 2 [.bor 2, .ex (pVar 0), .ex (pVar 1)] [false, false]
theorem sn44 {sc : SC} {T : Tab} {U : PTab} (hT : TSnd sc T U) : SS sc (d44 T) (p44 U) :=
  ss_mk hT (sl_bor (sl_ex se_var (sl_ex se_var (sl_nil))))
def p45_e0 (U : PTab) : PExp := pCall U 30 [.ex (pVar 1), .ex (pVar 2), .ex (pOp opPow [.ex (pC (.int 10)), .ex (pC (.int 19))]), .ex (pOp opAdd [.ex (pOp opPow [.ex (pC (.int 10)), .ex (pC (.int 19))]), .bor 4])] [false, false, false, false]
theorem sn45_e0 {sc : SC} {T : Tab} {U : PTab} (hT : TSnd sc T U) : SE sc (d45_e0 T) (p45_e0 U) := se_call hT (sl_ex (se_var) (sl_ex (se_var) (sl_ex (se_bin snd_pow (sl_ex (se_int) (sl_ex (se_int) (sl_nil)))) (sl_ex (se_bin snd_add (sl_ex (se_bin snd_pow (sl_ex (se_int) (sl_ex (se_int) (sl_nil)))) (sl_bor (sl_nil)))) (sl_nil)))))
/-- _law_example_right(); names ['_law_p', '_law_plan', '_law_great', '_law_due', '_law_k'] -/
def p45 (U : PTab) : PStm :=
  pSeq (pSet 0 (pTup [.ex (pTup []), .ex (pTup [])])) (pSeq (pAsg (.tp [.nm 1, .nm 2]) (pTup [.ex (pCall U 44 [.ex (pLst [.ex (pTup [.ex (pVar 0)])]), .ex (pC (.str "left"))] [false, false]), .ex (pOp opPow [.ex (pC (.int 10)), .ex (pC (.int 20))])])) (pSeq (pSet 3 (pLst [.ex (pTup [.ex (pC (.int 0)), .ex (pC (.int 7))]), .ex (pTup [.ex (pC (.int 0)), .ex (pC (.int 6))]), .ex (pTup [.ex (pC (.int 0)), .ex (pC (.int 4))]), .ex (pTup [.ex (pC (.int 0)), .ex (pC (.int 2))]), .ex (pTup [.ex (pC (.int 0)), .ex (pC (.int 1))]), .ex (pTup [.ex (pC (.int 1)), .ex (pC (.int 2))]), .ex (pTup [.ex (pC (.int 2)), .ex (pC (.int 4))]), .ex (pTup [.ex (pC (.int 2)), .ex (pC (.int 3))]), .ex (pTup [.ex (pC (.int 3)), .ex (pC (.int 4))]), .ex (pTup [.ex (pC (.int 4)), .ex (pC (.int 6))]), .ex (pTup [.ex (pC (.int 4)), .ex (pC (.int 5))]), .ex (pTup [.ex (pC (.int 5)), .ex (pC (.int 6))]), .ex (pTup [.ex (pC (.int 6)), .ex (pC (.int 7))])])) (pSeq (pIf (pOrr (pTof (pOp (opEq true) [.ex (pCall U 11 [.ex (pVar 1), .ex (pC (.int 7))] [false, false]), .ex (pTup [.ex (pTup [.ex (pTup [.ex (pVar 0), .ex (pVar 0)]), .ex (pVar 0)]), .ex (pTup [])])])) (pOrr (pTof (pOp (opEq true) [.ex (pCall U 18 [.ex (pVar 1), .ex (pC (.int 7))] [false, false]), .bor 3])) (pTof (pOp (opEq true) [.ex (pCall U 14 [.ex (pVar 1), .ex (pC (.int 7)), .ex (pC (.int 5))] [false, false, false]), .ex (pLst [.ex (pTup [.ex (pC (.int 0)), .ex (pC (.int 2))]), .ex (pTup [.ex (pC (.int 2)), .ex (pC (.int 4))]), .ex (pTup [.ex (pC (.int 4)), .ex (pC (.int 6))]), .ex (pTup [.ex (pC (.int 6)), .ex (pC (.int 7))])])])))) (pRet (pC (.bl false))) (pSkip)) (pSeq (pIf (pTof (pOp (opEq true) [.ex (pLst [.ex (pCall U 36 [.ex (pVar 1), .ex (pC (.int 7)), .ex (pC (.int 3))] [false, false, false]), .ex (pCall U 32 [.ex (pVar 1), .ex (pC (.int 7)), .ex (pC (.int 3)), .ex (pC (.int 4))] [false, false, false, false]), .ex (pCall U 34 [.ex (pVar 1), .ex (pC (.int 7)), .ex (pC (.int 3)), .ex (pC (.int 4))] [false, false, false, false]), .ex (pCall U 31 [.ex (pVar 1), .ex (pC (.int 7)), .ex (pTup [.ex (pC (.int 0)), .ex (pC (.int 1))])] [false, false, false])]), .ex (pLst [.ex (pC (.int 4)), .ex (pTup [.ex (pC (.int 0)), .ex (pC (.int 0)), .ex (pC (.int 1)), .ex (pC (.int 1))]), .ex (pTup [.ex (pC (.int 0)), .ex (pC (.int 6))]), .ex (pTup [.ex (pC (.int 4)), .ex (pC (.int 6))])])])) (pRet (pC (.bl false))) (pSkip)) (pSeq (pIf (pOrr (pTof (pOp (opEq true) [.ex (pCall U 36 [.ex (pVar 1), .ex (pVar 2), .ex (pC (.int 3))] [false, false, false]), .ex (pOp opMul [.ex (pC (.int 5)), .ex (pOp opPow [.ex (pC (.int 10)), .ex (pC (.int 19))])])])) (pTof (pOp (opIs true) [.ex (pCall U 30 [.ex (pVar 1), .ex (pVar 2), .ex (pC (.int 0)), .ex (pOp opPow [.ex (pC (.int 10)), .ex (pC (.int 19))])] [false, false, false, false]), .ex (pC (.bl true))]))) (pRet (pC (.bl false))) (pSkip)) (pRet (pOp (opEq false) [.ex (pLc (pItE (pTup [.ex (pC (.int 1)), .ex (pC (.int 2)), .ex (pC (.int 3))])) (.nm 4) [4] (pYes) (p45_e0 U)), .ex (pLst [.ex (pC (.bl true)), .ex (pC (.bl true)), .ex (pC (.bl false))])])))))))
theorem sn45 {sc : SC} {T : Tab} {U : PTab} (hT : TSnd sc T U) : SS sc (d45 T) (p45 U) :=
  ss_seq (ss_set (se_tup (sl_ex (se_tup (sl_nil)) (sl_ex (se_tup (sl_nil)) (sl_nil)))))
    (ss_seq (ss_asg (se_tup (sl_ex (se_call hT (sl_ex (se_lst (sl_ex (se_tup (sl_ex (se_var) (sl_nil))) (sl_nil))) (sl_ex (se_str) (sl_nil)))) (sl_ex (se_bin snd_pow (sl_ex (se_int) (sl_ex (se_int) (sl_nil)))) (sl_nil)))))
    (ss_seq (ss_set (se_lst (sl_ex (se_tup (sl_ex (se_int) (sl_ex (se_int) (sl_nil)))) (sl_ex (se_tup (sl_ex (se_int) (sl_ex (se_int) (sl_nil)))) (sl_ex (se_tup (sl_ex (se_int) (sl_ex (se_int) (sl_nil)))) (sl_ex (se_tup (sl_ex (se_int) (sl_ex (se_int) (sl_nil)))) (sl_ex (se_tup (sl_ex (se_int) (sl_ex (se_int) (sl_nil)))) (sl_ex (se_tup (sl_ex (se_int) (sl_ex (se_int) (sl_nil)))) (sl_ex (se_tup (sl_ex (se_int) (sl_ex (se_int) (sl_nil)))) (sl_ex (se_tup (sl_ex (se_int) (sl_ex (se_int) (sl_nil)))) (sl_ex (se_tup (sl_ex (se_int) (sl_ex (se_int) (sl_nil)))) (sl_ex (se_tup (sl_ex (se_int) (sl_ex (se_int) (sl_nil)))) (sl_ex (se_tup (sl_ex (se_int) (sl_ex (se_int) (sl_nil)))) (sl_ex (se_tup (sl_ex (se_int) (sl_ex (se_int) (sl_nil)))) (sl_ex (se_tup (sl_ex (se_int) (sl_ex (se_int) (sl_nil)))) (sl_nil))))))))))))))))
    (ss_seq (ss_if (st_or (st_of (se_bin (snd_eq true) (sl_ex (se_call hT (sl_ex (se_var) (sl_ex (se_int) (sl_nil)))) (sl_ex (se_tup (sl_ex (se_tup (sl_ex (se_tup (sl_ex (se_var) (sl_ex (se_var) (sl_nil)))) (sl_ex (se_var) (sl_nil)))) (sl_ex (se_tup (sl_nil)) (sl_nil)))) (sl_nil))))) (st_or (st_of (se_bin (snd_eq true) (sl_ex (se_call hT (sl_ex (se_var) (sl_ex (se_int) (sl_nil)))) (sl_bor (sl_nil))))) (st_of (se_bin (snd_eq true) (sl_ex (se_call hT (sl_ex (se_var) (sl_ex (se_int) (sl_ex (se_int) (sl_nil))))) (sl_ex (se_lst (sl_ex (se_tup (sl_ex (se_int) (sl_ex (se_int) (sl_nil)))) (sl_ex (se_tup (sl_ex (se_int) (sl_ex (se_int) (sl_nil)))) (sl_ex (se_tup (sl_ex (se_int) (sl_ex (se_int) (sl_nil)))) (sl_ex (se_tup (sl_ex (se_int) (sl_ex (se_int) (sl_nil)))) (sl_nil)))))) (sl_nil))))))) (ss_ret (se_bl)) (ss_skip))
    (ss_seq (ss_if (st_of (se_bin (snd_eq true) (sl_ex (se_lst (sl_ex (se_call hT (sl_ex (se_var) (sl_ex (se_int) (sl_ex (se_int) (sl_nil))))) (sl_ex (se_call hT (sl_ex (se_var) (sl_ex (se_int) (sl_ex (se_int) (sl_ex (se_int) (sl_nil)))))) (sl_ex (se_call hT (sl_ex (se_var) (sl_ex (se_int) (sl_ex (se_int) (sl_ex (se_int) (sl_nil)))))) (sl_ex (se_call hT (sl_ex (se_var) (sl_ex (se_int) (sl_ex (se_tup (sl_ex (se_int) (sl_ex (se_int) (sl_nil)))) (sl_nil))))) (sl_nil)))))) (sl_ex (se_lst (sl_ex (se_int) (sl_ex (se_tup (sl_ex (se_int) (sl_ex (se_int) (sl_ex (se_int) (sl_ex (se_int) (sl_nil)))))) (sl_ex (se_tup (sl_ex (se_int) (sl_ex (se_int) (sl_nil)))) (sl_ex (se_tup (sl_ex (se_int) (sl_ex (se_int) (sl_nil)))) (sl_nil)))))) (sl_nil))))) (ss_ret (se_bl)) (ss_skip))
    (ss_seq (ss_if (st_or (st_of (se_bin (snd_eq true) (sl_ex (se_call hT (sl_ex (se_var) (sl_ex (se_var) (sl_ex (se_int) (sl_nil))))) (sl_ex (se_bin snd_mul (sl_ex (se_int) (sl_ex (se_bin snd_pow (sl_ex (se_int) (sl_ex (se_int) (sl_nil)))) (sl_nil)))) (sl_nil))))) (st_of (se_bin (snd_is true) (sl_ex (se_call hT (sl_ex (se_var) (sl_ex (se_var) (sl_ex (se_int) (sl_ex (se_bin snd_pow (sl_ex (se_int) (sl_ex (se_int) (sl_nil)))) (sl_nil)))))) (sl_ex (se_bl) (sl_nil)))))) (ss_ret (se_bl)) (ss_skip))
    (ss_ret (se_bin (snd_eq false) (sl_ex (se_lc (si_val (se_tup (sl_ex (se_int) (sl_ex (se_int) (sl_ex (se_int) (sl_nil)))))) (st_yes) ((sn45_e0 hT))) (sl_ex (se_lst (sl_ex (se_bl) (sl_ex (se_bl) (sl_ex (se_bl) (sl_nil))))) (sl_nil))))))))))
def p46_e0 (U : PTab) : PExp := pCall U 11 [.ex (pVar 4), .bor 9] [false, false]
theorem sn46_e0 {sc : SC} {T : Tab} {U : PTab} (hT : TSnd sc T U) : SE sc (d46_e0 T) (p46_e0 U) := se_call hT (sl_ex (se_var) (sl_bor (sl_nil)))
def p46_e1 (U : PTab) : PExp := pCall U 11 [.ex (pCall U 44 [.ex (pLst [.ex (pVar 3)]), .ex (pVar 10)] [false, false]), .ex (pC (.int 8))] [false, false]
theorem sn46_e1 {sc : SC} {T : Tab} {U : PTab} (hT : TSnd sc T U) : SE sc (d46_e1 T) (p46_e1 U) := se_call hT (sl_ex (se_call hT (sl_ex (se_lst (sl_ex (se_var) (sl_nil))) (sl_ex (se_var) (sl_nil)))) (sl_ex (se_int) (sl_nil)))
def p46_e2 (U : PTab) : PExp := pCall U 34 [.ex (pVar 5), .ex (pVar 8), .ex (pC (.int 0)), .ex (pVar 11)] [false, false, false, false]
theorem sn46_e2 {sc : SC} {T : Tab} {U : PTab} (hT : TSnd sc T U) : SE sc (d46_e2 T) (p46_e2 U) := se_call hT (sl_ex (se_var) (sl_ex (se_var) (sl_ex (se_int) (sl_ex (se_var) (sl_nil)))))
def p46_e3 (U : PTab) : PExp := pCall U 36 [.ex (pVar 5), .ex (pOp opAdd [.bor 8, .ex (pC (.int 1))]), .ex (pVar 11)] [false, false, false]
theorem sn46_e3 {sc : SC} {T : Tab} {U : PTab} (hT : TSnd sc T U) : SE sc (d46_e3 T) (p46_e3 U) := se_call hT (sl_ex (se_var) (sl_ex (se_bin snd_add (sl_bor (sl_ex (se_int) (sl_nil)))) (sl_ex (se_var) (sl_nil))))
def p46_e4 (U : PTab) : PExp := pCall U 35 [.ex (pVar 5), .ex (pC (.int 4)), .ex (pVar 11), .ex (pVar 12)] [false, false, false, false]
theorem sn46_e4 {sc : SC} {T : Tab} {U : PTab} (hT : TSnd sc T U) : SE sc (d46_e4 T) (p46_e4 U) := se_call hT (sl_ex (se_var) (sl_ex (se_int) (sl_ex (se_var) (sl_ex (se_var) (sl_nil)))))
/-- law(_law_script:lk); names ['_law_script', '_law_p', '_law_l', '_law_r', '_law_threes', '_law_halves', '_law_three', '_law_other', '_law_many', '_law_n', '_law_end', '_law_i', '_law_j'] -/
def p46 (U : PTab) : PStm :=
  pSeq (pSet 1 (pTup [.ex (pTup []), .ex (pTup [])])) (pSeq (pAsg (.tp [.nm 2, .nm 3]) (pTup [.ex (pTup [.ex (pVar 1), .ex (pTup [.ex (pVar 1), .ex (pTup [])])]), .ex (pTup [.ex (pVar 1), .ex (pTup [.ex (pTup []), .ex (pVar 1)])])])) (pSeq (pAsg (.tp [.nm 4, .nm 5]) (pTup [.ex (pCall U 44 [.ex (pLst [.ex (pVar 2), .ex (pVar 3)]), .ex (pC (.str "right"))] [false, false]), .ex (pCall U 44 [.ex (pTup []), .ex (pTup [.ex (pTup [.ex (pVar 1)])])] [false, false])])) (pSeq (pPar [6, 7] [pTup [.ex (pVar 1), .ex (pTup [])], pTup [.ex (pTup []), .ex (pVar 1)]]) (pSeq (pIf (pTof (pOp (opEq true) [.ex (pLc (pItE (pTup [.ex (pC (.int 1)), .ex (pC (.int 2)), .ex (pC (.int 3)), .ex (pC (.int 4)), .ex (pC (.int 5)), .ex (pC (.int 7))])) (.nm 9) [9] (pYes) (p46_e0 U)), .ex (pLst [.ex (pTup []), .ex (pVar 1), .ex (pVar 6), .ex (pTup [.ex (pVar 6), .ex (pTup [])]), .ex (pTup [.ex (pVar 6), .ex (pVar 1)]), .ex (pTup [.ex (pVar 6), .ex (pTup [.ex (pVar 6), .ex (pTup [])])])])])) (pRet (pC (.bl false))) (pSkip)) (pSeq (pIf (pOrr (pTof (pOp (opEq true) [.ex (pCall U 11 [.ex (pVar 4), .ex (pC (.int 13))] [false, false]), .ex (pTup [.ex (pTup [.ex (pVar 6), .ex (pTup [.ex (pVar 6), .ex (pVar 6)])]), .ex (pTup [.ex (pVar 6), .ex (pTup [])])])])) (pOrr (pTof (pOp (opEq true) [.ex (pCall U 36 [.ex (pVar 4), .ex (pC (.int 13)), .ex (pC (.int 12))] [false, false, false]), .ex (pC (.int 2))])) (pTof (pOp (opEq true) [.ex (pCall U 36 [.ex (pVar 4), .ex (pC (.int 13)), .ex (pC (.int 0))] [false, false, false]), .ex (pC (.int 4))])))) (pRet (pC (.bl false))) (pSkip)) (pSeq (pIf (pTof (pOp (opEq true) [.ex (pLc (pItE (pTup [.ex (pC (.str "left")), .ex (pC (.str "right"))])) (.nm 10) [10] (pYes) (p46_e1 U)), .ex (pLst [.ex (pTup [.ex (pTup [.ex (pVar 7), .ex (pVar 7)]), .ex (pVar 1)]), .ex (pTup [.ex (pVar 7), .ex (pTup [.ex (pVar 7), .ex (pVar 1)])])])])) (pRet (pC (.bl false))) (pSkip)) (pSeq (pIf (pTof (pOp (opEq true) [.ex (pCall U 11 [.ex (pVar 5), .ex (pC (.int 7))] [false, false]), .ex (pTup [.ex (pTup [.ex (pVar 1), .ex (pVar 1)]), .ex (pTup [.ex (pVar 1), .ex (pTup [])])])])) (pRet (pC (.bl false))) (pSkip)) (pSeq (pSet 8 (pOp opPow [.ex (pC (.int 2)), .ex (pC (.int 60))])) (pSeq (pIf (pTof (pOp (opEq true) [.ex (pLc (pItE (pTup [.ex (pC (.int 1)), .ex (pC (.int 32)), .ex (pOp opPow [.ex (pC (.int 2)), .ex (pC (.int 59))])])) (.nm 11) [11] (pYes) (p46_e2 U)), .ex (pLst [.ex (pTup [.ex (pC (.int 0)), .ex (pC (.int 2))]), .ex (pTup [.ex (pC (.int 0)), .ex (pC (.int 64))]), .ex (pTup [.ex (pC (.int 0)), .ex (pVar 8)])])])) (pRet (pC (.bl false))) (pSkip)) (pSeq (pIf (pTof (pOp (opEq true) [.ex (pLc (pItE (pTup [.ex (pC (.int 0)), .ex (pVar 8)])) (.nm 11) [11] (pYes) (p46_e3 U)), .ex (pLst [.ex (pC (.int 61)), .ex (pC (.int 1))])])) (pRet (pC (.bl false))) (pSkip)) (pSeq (pIf (pTof (pOp (opEq true) [.ex (pCall U 32 [.ex (pVar 5), .ex (pOp opAdd [.bor 8, .ex (pC (.int 1))]), .ex (pVar 8), .ex (pOp opAdd [.bor 8, .ex (pC (.int 1))])] [false, false, false, false]), .ex (pTup [.ex (pC (.int 1))])])) (pRet (pC (.bl false))) (pSkip)) (pSeq (pIf (pTof (pOp (opEq true) [.ex (pLc (pItE (pLst [.ex (pTup [.ex (pC (.int 0)), .ex (pC (.int 3))]), .ex (pTup [.ex (pC (.int 1)), .ex (pC (.int 4))]), .ex (pTup [.ex (pC (.int 0)), .ex (pC (.int 4))])])) (.tp [.nm 11, .nm 12]) [11, 12] (pYes) (p46_e4 U)), .ex (pLst [.ex (pTup [.ex (pC (.int 2)), .ex (pC (.int 4))]), .ex (pTup [.ex (pC (.int 0)), .ex (pC (.int 2))]), .ex (pC .non)])])) (pRet (pC (.bl false))) (pSkip)) (pSeq (pIf (pTof (pOp (opIn true) [.ex (pCall U 35 [.ex (pVar 5), .ex (pC (.int 4)), .ex (pC (.int 1)), .ex (pC (.int 3))] [false, false, false, false]), .ex (pLst [.ex (pTup [.ex (pC (.int 0)), .ex (pC (.int 2))]), .ex (pTup [.ex (pC (.int 2)), .ex (pC (.int 4))])])])) (pRet (pC (.bl false))) (pSkip)) (pRet (pCall U 45 [] [])))))))))))))))
theorem sn46 {sc : SC} {T : Tab} {U : PTab} (hT : TSnd sc T U) : SS sc (d46 T) (p46 U) :=
  ss_seq (ss_set (se_tup (sl_ex (se_tup (sl_nil)) (sl_ex (se_tup (sl_nil)) (sl_nil)))))
    (ss_seq (ss_asg (se_tup (sl_ex (se_tup (sl_ex (se_var) (sl_ex (se_tup (sl_ex (se_var) (sl_ex (se_tup (sl_nil)) (sl_nil)))) (sl_nil)))) (sl_ex (se_tup (sl_ex (se_var) (sl_ex (se_tup (sl_ex (se_tup (sl_nil)) (sl_ex (se_var) (sl_nil)))) (sl_nil)))) (sl_nil)))))
    (ss_seq (ss_asg (se_tup (sl_ex (se_call hT (sl_ex (se_lst (sl_ex (se_var) (sl_ex (se_var) (sl_nil)))) (sl_ex (se_str) (sl_nil)))) (sl_ex (se_call hT (sl_ex (se_tup (sl_nil)) (sl_ex (se_tup (sl_ex (se_tup (sl_ex (se_var) (sl_nil))) (sl_nil))) (sl_nil)))) (sl_nil)))))
    (ss_seq (ss_par (sv2_cons (se_tup (sl_ex (se_var) (sl_ex (se_tup (sl_nil)) (sl_nil)))) (sv2_cons (se_tup (sl_ex (se_tup (sl_nil)) (sl_ex (se_var) (sl_nil)))) (sv2_nil))))
    (ss_seq (ss_if (st_of (se_bin (snd_eq true) (sl_ex (se_lc (si_val (se_tup (sl_ex (se_int) (sl_ex (se_int) (sl_ex (se_int) (sl_ex (se_int) (sl_ex (se_int) (sl_ex (se_int) (sl_nil))))))))) (st_yes) ((sn46_e0 hT))) (sl_ex (se_lst (sl_ex (se_tup (sl_nil)) (sl_ex (se_var) (sl_ex (se_var) (sl_ex (se_tup (sl_ex (se_var) (sl_ex (se_tup (sl_nil)) (sl_nil)))) (sl_ex (se_tup (sl_ex (se_var) (sl_ex (se_var) (sl_nil)))) (sl_ex (se_tup (sl_ex (se_var) (sl_ex (se_tup (sl_ex (se_var) (sl_ex (se_tup (sl_nil)) (sl_nil)))) (sl_nil)))) (sl_nil)))))))) (sl_nil))))) (ss_ret (se_bl)) (ss_skip))
    (ss_seq (ss_if (st_or (st_of (se_bin (snd_eq true) (sl_ex (se_call hT (sl_ex (se_var) (sl_ex (se_int) (sl_nil)))) (sl_ex (se_tup (sl_ex (se_tup (sl_ex (se_var) (sl_ex (se_tup (sl_ex (se_var) (sl_ex (se_var) (sl_nil)))) (sl_nil)))) (sl_ex (se_tup (sl_ex (se_var) (sl_ex (se_tup (sl_nil)) (sl_nil)))) (sl_nil)))) (sl_nil))))) (st_or (st_of (se_bin (snd_eq true) (sl_ex (se_call hT (sl_ex (se_var) (sl_ex (se_int) (sl_ex (se_int) (sl_nil))))) (sl_ex (se_int) (sl_nil))))) (st_of (se_bin (snd_eq true) (sl_ex (se_call hT (sl_ex (se_var) (sl_ex (se_int) (sl_ex (se_int) (sl_nil))))) (sl_ex (se_int) (sl_nil))))))) (ss_ret (se_bl)) (ss_skip))
    (ss_seq (ss_if (st_of (se_bin (snd_eq true) (sl_ex (se_lc (si_val (se_tup (sl_ex (se_str) (sl_ex (se_str) (sl_nil))))) (st_yes) ((sn46_e1 hT))) (sl_ex (se_lst (sl_ex (se_tup (sl_ex (se_tup (sl_ex (se_var) (sl_ex (se_var) (sl_nil)))) (sl_ex (se_var) (sl_nil)))) (sl_ex (se_tup (sl_ex (se_var) (sl_ex (se_tup (sl_ex (se_var) (sl_ex (se_var) (sl_nil)))) (sl_nil)))) (sl_nil)))) (sl_nil))))) (ss_ret (se_bl)) (ss_skip))
    (ss_seq (ss_if (st_of (se_bin (snd_eq true) (sl_ex (se_call hT (sl_ex (se_var) (sl_ex (se_int) (sl_nil)))) (sl_ex (se_tup (sl_ex (se_tup (sl_ex (se_var) (sl_ex (se_var) (sl_nil)))) (sl_ex (se_tup (sl_ex (se_var) (sl_ex (se_tup (sl_nil)) (sl_nil)))) (sl_nil)))) (sl_nil))))) (ss_ret (se_bl)) (ss_skip))
    (ss_seq (ss_set (se_bin snd_pow (sl_ex (se_int) (sl_ex (se_int) (sl_nil)))))
    (ss_seq (ss_if (st_of (se_bin (snd_eq true) (sl_ex (se_lc (si_val (se_tup (sl_ex (se_int) (sl_ex (se_int) (sl_ex (se_bin snd_pow (sl_ex (se_int) (sl_ex (se_int) (sl_nil)))) (sl_nil)))))) (st_yes) ((sn46_e2 hT))) (sl_ex (se_lst (sl_ex (se_tup (sl_ex (se_int) (sl_ex (se_int) (sl_nil)))) (sl_ex (se_tup (sl_ex (se_int) (sl_ex (se_int) (sl_nil)))) (sl_ex (se_tup (sl_ex (se_int) (sl_ex (se_var) (sl_nil)))) (sl_nil))))) (sl_nil))))) (ss_ret (se_bl)) (ss_skip))
    (ss_seq (ss_if (st_of (se_bin (snd_eq true) (sl_ex (se_lc (si_val (se_tup (sl_ex (se_int) (sl_ex (se_var) (sl_nil))))) (st_yes) ((sn46_e3 hT))) (sl_ex (se_lst (sl_ex (se_int) (sl_ex (se_int) (sl_nil)))) (sl_nil))))) (ss_ret (se_bl)) (ss_skip))
    (ss_seq (ss_if (st_of (se_bin (snd_eq true) (sl_ex (se_call hT (sl_ex (se_var) (sl_ex (se_bin snd_add (sl_bor (sl_ex (se_int) (sl_nil)))) (sl_ex (se_var) (sl_ex (se_bin snd_add (sl_bor (sl_ex (se_int) (sl_nil)))) (sl_nil)))))) (sl_ex (se_tup (sl_ex (se_int) (sl_nil))) (sl_nil))))) (ss_ret (se_bl)) (ss_skip))
    (ss_seq (ss_if (st_of (se_bin (snd_eq true) (sl_ex (se_lc (si_val (se_lst (sl_ex (se_tup (sl_ex (se_int) (sl_ex (se_int) (sl_nil)))) (sl_ex (se_tup (sl_ex (se_int) (sl_ex (se_int) (sl_nil)))) (sl_ex (se_tup (sl_ex (se_int) (sl_ex (se_int) (sl_nil)))) (sl_nil)))))) (st_yes) ((sn46_e4 hT))) (sl_ex (se_lst (sl_ex (se_tup (sl_ex (se_int) (sl_ex (se_int) (sl_nil)))) (sl_ex (se_tup (sl_ex (se_int) (sl_ex (se_int) (sl_nil)))) (sl_ex (se_non) (sl_nil))))) (sl_nil))))) (ss_ret (se_bl)) (ss_skip))
    (ss_seq (ss_if (st_of (se_bin (snd_in true) (sl_ex (se_call hT (sl_ex (se_var) (sl_ex (se_int) (sl_ex (se_int) (sl_ex (se_int) (sl_nil)))))) (sl_ex (se_lst (sl_ex (se_tup (sl_ex (se_int) (sl_ex (se_int) (sl_nil)))) (sl_ex (se_tup (sl_ex (se_int) (sl_ex (se_int) (sl_nil)))) (sl_nil)))) (sl_nil))))) (ss_ret (se_bl)) (ss_skip))
    (ss_ret (se_call hT (sl_nil))))))))))))))))
def PP : List PEnt := [.fn 1 1 p0, .fn 1 1 p1, .fn 4 1 p2, .fn 4 1 p3, .fn 4 2 p4, .fn 3 1 p5, .fn 4 1 p6, .fn 1 1 p7, .fn 2 2 p8, .fn 3 2 p9, .fn 6 2 p10, .fn 4 2 p11, .fn 4 2 p12, .fn 4 2 p13, .fn 6 3 p14, .fn 5 1 p15, .fn 3 2 p16, .fn 8 2 p17, .fn 8 2 p18, .fn 3 3 p19, .fn 3 3 p20, .fn 6 2 p21, .fn 6 3 p22, .fn 8 2 p23, .fn 1 1 p24, .fn 10 2 p25, .fn 9 4 p26, .fn 8 3 p27, .fn 3 2 p28, .fn 8 4 p29, .fn 4 4 p30, .fn 7 3 p31, .fn 9 4 p32, .fn 3 2 p33, .fn 5 4 p34, .fn 8 4 p35, .fn 11 3 p36, .fn 4 1 p37, .fn 3 2 p38, .fn 4 3 p39, .fn 2 2 p40, .fn 1 1 p41, .fn 1 1 p42, .fn 2 2 p43, .fn 3 2 p44, .fn 5 0 p45, .fn 13 1 p46]
theorem pp_ok {sc : SC} : ∀ (i : Nat) (p : PEnt), PP[i]? = some p → ∃ F, Prog[i]? = some F ∧ EntOk sc F p
  | 0, p, h => by cases h; exact ⟨_, rfl, .fn fun _ _ h => sn0 h⟩
  | 1, p, h => by cases h; exact ⟨_, rfl, .fn fun _ _ h => sn1 h⟩
  | 2, p, h => by cases h; exact ⟨_, rfl, .fn fun _ _ h => sn2 h⟩
  | 3, p, h => by cases h; exact ⟨_, rfl, .fn fun _ _ h => sn3 h⟩
  | 4, p, h => by cases h; exact ⟨_, rfl, .fn fun _ _ h => sn4 h⟩
  | 5, p, h => by cases h; exact ⟨_, rfl, .fn fun _ _ h => sn5 h⟩
  | 6, p, h => by cases h; exact ⟨_, rfl, .fn fun _ _ h => sn6 h⟩
  | 7, p, h => by cases h; exact ⟨_, rfl, .fn fun _ _ h => sn7 h⟩
  | 8, p, h => by cases h; exact ⟨_, rfl, .fn fun _ _ h => sn8 h⟩
  | 9, p, h => by cases h; exact ⟨_, rfl, .fn fun _ _ h => sn9 h⟩
  | 10, p, h => by cases h; exact ⟨_, rfl, .fn fun _ _ h => sn10 h⟩
  | 11, p, h => by cases h; exact ⟨_, rfl, .fn fun _ _ h => sn11 h⟩
  | 12, p, h => by cases h; exact ⟨_, rfl, .fn fun _ _ h => sn12 h⟩
  | 13, p, h => by cases h; exact ⟨_, rfl, .fn fun _ _ h => sn13 h⟩
  | 14, p, h => by cases h; exact ⟨_, rfl, .fn fun _ _ h => sn14 h⟩
  | 15, p, h => by cases h; exact ⟨_, rfl, .fn fun _ _ h => sn15 h⟩
  | 16, p, h => by cases h; exact ⟨_, rfl, .fn fun _ _ h => sn16 h⟩
  | 17, p, h => by cases h; exact ⟨_, rfl, .fn fun _ _ h => sn17 h⟩
  | 18, p, h => by cases h; exact ⟨_, rfl, .fn fun _ _ h => sn18 h⟩
  | 19, p, h => by cases h; exact ⟨_, rfl, .fn fun _ _ h => sn19 h⟩
  | 20, p, h => by cases h; exact ⟨_, rfl, .fn fun _ _ h => sn20 h⟩
  | 21, p, h => by cases h; exact ⟨_, rfl, .fn fun _ _ h => sn21 h⟩
  | 22, p, h => by cases h; exact ⟨_, rfl, .fn fun _ _ h => sn22 h⟩
  | 23, p, h => by cases h; exact ⟨_, rfl, .fn fun _ _ h => sn23 h⟩
  | 24, p, h => by cases h; exact ⟨_, rfl, .fn fun _ _ h => sn24 h⟩
  | 25, p, h => by cases h; exact ⟨_, rfl, .fn fun _ _ h => sn25 h⟩
  | 26, p, h => by cases h; exact ⟨_, rfl, .fn fun _ _ h => sn26 h⟩
  | 27, p, h => by cases h; exact ⟨_, rfl, .fn fun _ _ h => sn27 h⟩
  | 28, p, h => by cases h; exact ⟨_, rfl, .fn fun _ _ h => sn28 h⟩
  | 29, p, h => by cases h; exact ⟨_, rfl, .fn fun _ _ h => sn29 h⟩
  | 30, p, h => by cases h; exact ⟨_, rfl, .fn fun _ _ h => sn30 h⟩
  | 31, p, h => by cases h; exact ⟨_, rfl, .fn fun _ _ h => sn31 h⟩
  | 32, p, h => by cases h; exact ⟨_, rfl, .fn fun _ _ h => sn32 h⟩
  | 33, p, h => by cases h; exact ⟨_, rfl, .fn fun _ _ h => sn33 h⟩
  | 34, p, h => by cases h; exact ⟨_, rfl, .fn fun _ _ h => sn34 h⟩
  | 35, p, h => by cases h; exact ⟨_, rfl, .fn fun _ _ h => sn35 h⟩
  | 36, p, h => by cases h; exact ⟨_, rfl, .fn fun _ _ h => sn36 h⟩
  | 37, p, h => by cases h; exact ⟨_, rfl, .fn fun _ _ h => sn37 h⟩
  | 38, p, h => by cases h; exact ⟨_, rfl, .fn fun _ _ h => sn38 h⟩
  | 39, p, h => by cases h; exact ⟨_, rfl, .fn fun _ _ h => sn39 h⟩
  | 40, p, h => by cases h; exact ⟨_, rfl, .fn fun _ _ h => sn40 h⟩
  | 41, p, h => by cases h; exact ⟨_, rfl, .fn fun _ _ h => sn41 h⟩
  | 42, p, h => by cases h; exact ⟨_, rfl, .fn fun _ _ h => sn42 h⟩
  | 43, p, h => by cases h; exact ⟨_, rfl, .fn fun _ _ h => sn43 h⟩
  | 44, p, h => by cases h; exact ⟨_, rfl, .fn fun _ _ h => sn44 h⟩
  | 45, p, h => by cases h; exact ⟨_, rfl, .fn fun _ _ h => sn45 h⟩
  | 46, p, h => by cases h; exact ⟨_, rfl, .fn fun _ _ h => sn46 h⟩
  | i + 47, p, h => by cases h
theorem tab_ok {sc : SC} (k : Nat) : TSnd sc (tabOf Prog k) (ptab PP k) := tab_is pp_ok k
theorem pt2 (k : Nat) (s0 : PSlot) : ptab PP (k + 1) 2 [s0] = finP 1 (p2 (ptab PP k) [s0, .un, .un, .un]) := ptab_at (nn := 4) (b := p2) rfl rfl
theorem pt18 (k : Nat) (s0 : PSlot) (s1 : PSlot) : ptab PP (k + 1) 18 [s0, s1] = finP 2 (p18 (ptab PP k) [s0, s1, .un, .un, .un, .un, .un, .un]) := ptab_at (nn := 8) (b := p18) rfl rfl
theorem pt45 (k : Nat) : ptab PP (k + 1) 45 [] = finP 0 (p45 (ptab PP k) [.un, .un, .un, .un, .un]) := ptab_at (nn := 5) (b := p45) rfl rfl
def env0 : PEnv := [.un, .un, .un, .un, .un, .un, .un, .un, .un, .un, .un, .un, .un]
theorem law_true_of {k : Nat} (hk : k + 1 = 200) (P : PStm) (hP : P = p46 (ptab PP k)) (h : (P env0).All LawT) (ns : List Int) (hn : ns.length ≤ 63) : ∃ M, tabOf Prog 200 46 [.ref 0] [.frz (ns.map D.int)] = .ok (.bl true) M := by
  have s := sn46 (tab_ok (sc := none) k)
  rw [← hP] at s
  clear hP
  rw [← hk]
  exact law_plain (F := ⟨13, 1, d46⟩) rfl rfl s (env := env0) rfl h ns hn
end Ev
namespace Ev
open PySem L2
inductive Sh where
  | lf
  | nd (a b : Sh)
deriving DecidableEq
namespace Sh
def toD : Sh → D
  | lf => .tup []
  | nd a b => .tup [a.toD, b.toD]
def sz : Sh → Nat
  | lf => 1
  | nd a b => a.sz + b.sz
def py : Sh → PyData
  | lf => .tuple []
  | nd a b => .tuple [a.py, b.py]
theorem sz_pos : ∀ s : Sh, 1 ≤ s.sz
  | lf => Nat.le_refl _
  | nd a b => Nat.le_trans a.sz_pos (Nat.le_add_right _ _)
theorem eqv : ∀ s t : Sh, PyData.eqv s.py t.py = decide (s = t)
  | lf, lf => by rw [py, PyData.eqv, PyData.eqvAll]; simp
  | lf, nd a b => by rw [py, py, PyData.eqv, PyData.eqvAll]; simp
  | nd a b, lf => by rw [py, py, PyData.eqv, PyData.eqvAll]; simp
  | nd a b, nd c d => by
    rw [py, py, PyData.eqv, PyData.eqvAll, PyData.eqvAll, PyData.eqvAll, eqv a c, eqv b d]
    by_cases h1 : a = c <;> by_cases h2 : b = d <;> simp [h1, h2]
theorem low (k : Nat) : ∀ s : Sh, s.toD.low k = true
  | lf => rfl
  | nd a b => by simp only [toD, D.low, lowL, low k a, low k b, Bool.and_self]
end Sh
abbrev Tb := List Sh
def ent (s : Tb) (m : Nat) : Sh := if m = 1 then .lf else s.getD (m - 2) .lf
abbrev tsz (s : Tb) : Nat := s.length + 1
/-- each entry has its size -/
def Good (s : Tb) : Prop := ∀ m, 2 ≤ m → m ≤ tsz s → (ent s m).sz = m
theorem Good.sz {s : Tb} (h : Good s) {m : Nat} (h1 : 1 ≤ m) (h2 : m ≤ tsz s) : (ent s m).sz = m := by
  by_cases hm : m = 1
  · subst hm; rfl
  · exact h m (by omega) h2
theorem Good.mem {s : Tb} (h : Good s) {x : Sh} (hx : x ∈ s) : x.sz ≤ tsz s := by
  obtain ⟨i, hi, rfl⟩ := List.getElem_of_mem hx
  have ht : tsz s = s.length + 1 := rfl
  have := h (i + 2) (by omega) (by omega)
  unfold ent at this
  rw [if_neg (by omega), show i + 2 - 2 = i by omega, List.getD_eq_getElem?_getD, List.getElem?_eq_getElem hi] at this
  simp only [Option.getD_some] at this
  omega
/-- leaves are replaced by the parts, in order; what is left of the parts -/
def fillR : Sh → List Sh → Sh × List Sh
  | .lf, [] => (.lf, [])
  | .lf, p :: ps => (p, ps)
  | .nd a b, ps => (.nd (fillR a ps).1 (fillR b (fillR a ps).2).1, (fillR b (fillR a ps).2).2)
abbrev fill (s : Sh) (ps : List Sh) : Sh := (fillR s ps).1
theorem fillR_rest : ∀ (s : Sh) (ps : List Sh), s.sz ≤ ps.length → (fillR s ps).2 = ps.drop s.sz
  | .lf, [], h => by simp [Sh.sz] at h
  | .lf, p :: ps, _ => rfl
  | .nd a b, ps, h => by
    rw [Sh.sz] at h
    have h1 := fillR_rest a ps (by omega)
    have h2 := fillR_rest b (fillR a ps).2 (by rw [h1, List.length_drop]; omega)
    show (fillR b (fillR a ps).2).2 = ps.drop (a.sz + b.sz)
    rw [h2, h1, List.drop_drop]
theorem fillR_app : ∀ (s : Sh) (ps qs : List Sh), s.sz ≤ ps.length → fillR s (ps ++ qs) = ((fillR s ps).1, (fillR s ps).2 ++ qs)
  | .lf, [], qs, h => by simp [Sh.sz] at h
  | .lf, p :: ps, qs, _ => rfl
  | .nd a b, ps, qs, h => by
    rw [Sh.sz] at h
    have h1 := fillR_app a ps qs (by omega)
    have h2 := fillR_app b (fillR a ps).2 qs (by rw [fillR_rest a ps (by omega), List.length_drop]; omega)
    simp only [fillR, h1, h2]
theorem fill_nd {a b : Sh} {ps : List Sh} (h : a.sz ≤ ps.length) : fill (.nd a b) ps = .nd (fill a ps) (fill b (ps.drop a.sz)) := by
  show Sh.nd (fillR a ps).1 (fillR b (fillR a ps).2).1 = _
  rw [fillR_rest a ps h]
theorem fill_take {s : Sh} {ps : List Sh} (h : s.sz ≤ ps.length) : fill s ps = fill s (ps.take s.sz) := by
  have := fillR_app s (ps.take s.sz) (ps.drop s.sz) (by rw [List.length_take]; omega)
  rw [List.take_append_drop] at this
  show (fillR s ps).1 = _
  rw [this]
theorem sum_split (l : List Sh) (n : Nat) : (l.map Sh.sz).sum = ((l.take n).map Sh.sz).sum + ((l.drop n).map Sh.sz).sum := by
  rw [← List.sum_append, ← List.map_append, List.take_append_drop]
theorem fill_sz : ∀ (s : Sh) (ps : List Sh), ps.length = s.sz → (fill s ps).sz = (ps.map Sh.sz).sum
  | .lf, ps, h => by
    match ps, h with
    | [p], _ => simp [fill, fillR]
  | .nd a b, ps, h => by
    rw [Sh.sz] at h
    rw [fill_nd (by omega), Sh.sz, fill_take (by omega), fill_sz a (ps.take a.sz) (by rw [List.length_take]; omega), fill_sz b (ps.drop a.sz) (by rw [List.length_drop]; omega), ← sum_split]
end Ev
namespace Ev
open PySem L2
abbrev kN (m b : Nat) : Nat := (m - 1) / b + 1
end Ev
namespace Ev
open PySem L2
/-- m lumps in stretches of b: their lengths -/
def cut (m b : Nat) : List Nat := if h : m ≤ b ∨ b = 0 then [m] else b :: cut (m - b) b
termination_by m
decreasing_by omega
theorem cut_one {m b : Nat} (h : m ≤ b) : cut m b = [m] := by rw [cut, dif_pos (.inl h)]
theorem cut_more {m b : Nat} (h : b < m) (hb : 1 ≤ b) : cut m b = b :: cut (m - b) b := by rw [cut, dif_neg (by omega)]
theorem kN_one {m b : Nat} (h1 : 1 ≤ m) (h : m ≤ b) : kN m b = 1 := by
  show (m - 1) / b + 1 = 1
  rw [Nat.div_eq_of_lt (by omega)]
theorem kN_more {m b : Nat} (h : b < m) (hb : 1 ≤ b) : kN m b = kN (m - b) b + 1 := by
  show (m - 1) / b + 1 = (m - b - 1) / b + 1 + 1
  have e : m - 1 = (m - b - 1) + b := by omega
  rw [e, Nat.add_div_right _ hb]
theorem cut_len : ∀ (n m b : Nat), m ≤ n → 1 ≤ m → 1 ≤ b → (cut m b).length = kN m b
  | 0, m, b, h, h1, _ => by omega
  | n + 1, m, b, h, h1, hb => by
    by_cases hm : m ≤ b
    · rw [cut_one hm, kN_one h1 hm]; rfl
    · rw [cut_more (by omega) hb, kN_more (by omega) hb, List.length_cons, cut_len n (m - b) b (by omega) (by omega) hb]
theorem cut_sum : ∀ (n m b : Nat), m ≤ n → 1 ≤ m → 1 ≤ b → (cut m b).sum = m
  | 0, m, b, h, h1, _ => by omega
  | n + 1, m, b, h, h1, hb => by
    by_cases hm : m ≤ b
    · rw [cut_one hm]; simp
    · rw [cut_more (by omega) hb, List.sum_cons, cut_sum n (m - b) b (by omega) (by omega) hb]; omega
theorem cut_mem : ∀ (n m b : Nat), m ≤ n → 1 ≤ m → 1 ≤ b → ∀ x ∈ cut m b, 1 ≤ x ∧ x ≤ b
  | 0, m, b, h, h1, _ => by omega
  | n + 1, m, b, h, h1, hb => fun x hx => by
    by_cases hm : m ≤ b
    · rw [cut_one hm] at hx
      rw [List.mem_singleton.mp hx]
      exact ⟨h1, hm⟩
    · rw [cut_more (by omega) hb] at hx
      rcases List.mem_cons.mp hx with e | e
      · omega
      · exact cut_mem n (m - b) b (by omega) (by omega) hb x e
theorem cut_times (b : Nat) (hb : 1 ≤ b) : ∀ c : Nat, 1 ≤ c → cut (b * c) b = List.replicate c b
  | 0, h => by omega
  | 1, _ => by rw [Nat.mul_one, cut_one (Nat.le_refl _)]; rfl
  | c + 2, _ => by
    have e : b * (c + 2) = b * (c + 1) + b := by rw [Nat.mul_add b (c + 1) 1, Nat.mul_one]
    have hp : 1 ≤ b * (c + 1) := Nat.mul_pos hb (Nat.succ_pos _)
    rw [cut_more (by omega) hb, e, Nat.add_sub_cancel, cut_times b hb (c + 1) (by omega)]
    rfl
/-- the first c stretches, then the others -/
theorem cut_skip (b : Nat) (hb : 1 ≤ b) : ∀ (c m : Nat), b * c < m → cut m b = List.replicate c b ++ cut (m - b * c) b
  | 0, m, _ => by rw [Nat.mul_zero, Nat.sub_zero]; rfl
  | c + 1, m, h => by
    have e : b * (c + 1) = b * c + b := by rw [Nat.mul_add, Nat.mul_one]
    rw [cut_more (by omega) hb, cut_skip b hb c (m - b) (by omega), List.replicate_succ, List.cons_append]
    congr 3
    omega
def parts (s : Tb) (m : Nat) : List Sh := (cut m (tsz s)).map (ent s)
def glE (s t : Tb) (m : Nat) : Sh := fill (ent t (kN m (tsz s))) (parts s m)
def glue (s t : Tb) : Tb := (List.range (tsz s * tsz t - 1)).map fun j => glE s t (j + 2)
theorem tsz_pos (s : Tb) : 1 ≤ tsz s := Nat.succ_pos _
theorem glue_tsz (s t : Tb) : tsz (glue s t) = tsz s * tsz t := by
  show (glue s t).length + 1 = _
  unfold glue
  rw [List.length_map, List.length_range]
  have : 1 ≤ tsz s * tsz t := Nat.mul_pos (tsz_pos s) (tsz_pos t)
  omega
theorem glE_one (s t : Tb) : glE s t 1 = .lf := by
  unfold glE parts
  rw [kN_one (Nat.le_refl _) (tsz_pos s), cut_one (tsz_pos s)]
  rfl
theorem ent_glue {s t : Tb} {m : Nat} (h1 : 1 ≤ m) (h2 : m ≤ tsz s * tsz t) : ent (glue s t) m = glE s t m := by
  unfold ent
  by_cases hm : m = 1
  · subst hm; rw [if_pos rfl, glE_one]
  · rw [if_neg hm]
    unfold glue
    rw [List.getD_eq_getElem?_getD, List.getElem?_map, List.getElem?_range (by omega)]
    simp only [Option.map_some, Option.getD_some]
    rw [show m - 2 + 2 = m by omega]
theorem kN_le {m b c : Nat} (h1 : 1 ≤ m) (h2 : m ≤ b * c) : kN m b ≤ c := by
  show (m - 1) / b + 1 ≤ c
  have hb : 0 < b := by
    rcases Nat.eq_zero_or_pos b with h | h
    · subst h; omega
    · exact h
  have : (m - 1) / b < c := Nat.div_lt_of_lt_mul (by omega)
  omega
theorem parts_len {s : Tb} {m : Nat} (h1 : 1 ≤ m) : (parts s m).length = kN m (tsz s) := by
  unfold parts
  rw [List.length_map, cut_len m m _ (Nat.le_refl _) h1 (tsz_pos s)]
theorem parts_sz {s : Tb} (g : Good s) {m : Nat} (h1 : 1 ≤ m) : ((parts s m).map Sh.sz).sum = m := by
  unfold parts
  rw [List.map_map]
  have : (cut m (tsz s)).map (Sh.sz ∘ ent s) = cut m (tsz s) := by
    refine (List.map_congr_left fun x hx => ?_).trans (List.map_id _)
    obtain ⟨a, b⟩ := cut_mem m m _ (Nat.le_refl _) h1 (tsz_pos s) x hx
    exact g.sz a b
  rw [this, cut_sum m m _ (Nat.le_refl _) h1 (tsz_pos s)]
theorem glE_sz {s t : Tb} (gs : Good s) (gt : Good t) {m : Nat} (h1 : 1 ≤ m) (h2 : m ≤ tsz s * tsz t) : (glE s t m).sz = m := by
  unfold glE
  rw [fill_sz _ _ (by rw [parts_len h1, gt.sz (Nat.succ_pos _) (kN_le h1 h2)]), parts_sz gs h1]
theorem glue_good {s t : Tb} (gs : Good s) (gt : Good t) : Good (glue s t) := fun m h1 h2 => by
  rw [glue_tsz] at h2
  rw [ent_glue (by omega) h2, glE_sz gs gt (by omega) h2]
def fillEach : List Sh → List Sh → List Sh
  | [], _ => []
  | T :: Ts, ps => fill T (ps.take T.sz) :: fillEach Ts (ps.drop T.sz)
theorem fillEach_app : ∀ (A B : List Sh) (ps : List Sh), fillEach (A ++ B) ps = fillEach A ps ++ fillEach B (ps.drop (A.map Sh.sz).sum)
  | [], B, ps => by simp [fillEach]
  | a :: A, B, ps => by
    simp only [List.cons_append, fillEach, fillEach_app A B, List.map_cons, List.sum_cons, List.drop_drop]
theorem fillEach_take : ∀ (A : List Sh) (ps : List Sh) (n : Nat), (A.map Sh.sz).sum ≤ n → fillEach A (ps.take n) = fillEach A ps
  | [], _, _, _ => rfl
  | a :: A, ps, n, h => by
    rw [List.map_cons, List.sum_cons] at h
    simp only [fillEach]
    rw [List.take_take, Nat.min_eq_left (by omega), List.drop_take, fillEach_take A (ps.drop a.sz) (n - a.sz) (by omega)]
theorem fill_fill : ∀ (U : Sh) (Ts ps : List Sh), Ts.length = U.sz → ps.length = (Ts.map Sh.sz).sum → fill (fill U Ts) ps = fill U (fillEach Ts ps)
  | .lf, Ts, ps, h, h2 => by
    match Ts, h with
    | [T], _ =>
      rw [List.map_cons, List.map_nil, List.sum_cons, List.sum_nil, Nat.add_zero] at h2
      show fill T ps = fill T (ps.take T.sz)
      rw [List.take_of_length_le (by omega)]
  | .nd a b, Ts, ps, h, h2 => by
    rw [Sh.sz] at h
    have l1 : (Ts.take a.sz).length = a.sz := by rw [List.length_take]; omega
    have l2 : (Ts.drop a.sz).length = b.sz := by rw [List.length_drop]; omega
    have hs := sum_split Ts a.sz
    have sa : (fill a Ts).sz = ((Ts.take a.sz).map Sh.sz).sum := by rw [fill_take (by omega), fill_sz a _ l1]
    have fe : ∀ (A B qs : List Sh), (fillEach (A ++ B) qs).take A.length = fillEach A qs ∧ (fillEach (A ++ B) qs).drop A.length = fillEach B (qs.drop (A.map Sh.sz).sum) := fun A B qs => by
      have hl : ∀ (A qs : List Sh), (fillEach A qs).length = A.length := fun A => by
        induction A with
        | nil => intro qs; rfl
        | cons x A ih => intro qs; simp only [fillEach, List.length_cons, ih]
      rw [fillEach_app]
      exact ⟨by rw [List.take_append_of_le_length (by rw [hl]; exact Nat.le_refl _), List.take_of_length_le (by rw [hl]; exact Nat.le_refl _)], by
        have := hl A qs
        rw [← this, List.drop_left]⟩
    have hl : (fillEach Ts ps).length = Ts.length := by
      have hl : ∀ (A qs : List Sh), (fillEach A qs).length = A.length := fun A => by
        induction A with
        | nil => intro qs; rfl
        | cons x A ih => intro qs; simp only [fillEach, List.length_cons, ih]
      exact hl _ _
    have eT : Ts = Ts.take a.sz ++ Ts.drop a.sz := (List.take_append_drop _ _).symm
    obtain ⟨f1, f2⟩ := fe (Ts.take a.sz) (Ts.drop a.sz) ps
    rw [← eT, l1] at f1 f2
    rw [fill_nd (a := a) (b := b) (ps := Ts) (by omega), fill_nd (by rw [sa, h2]; omega), fill_nd (a := a) (b := b) (by rw [hl]; omega), f2, sa]
    congr 1
    · rw [fill_take (s := a) (ps := Ts) (by omega), fill_take (s := a) (ps := fillEach Ts ps) (by rw [hl]; omega), f1, ← fillEach_take _ ps _ (Nat.le_refl _), ← fill_fill a (Ts.take a.sz) (ps.take ((Ts.take a.sz).map Sh.sz).sum) l1 (by rw [List.length_take, h2]; omega)]
      rw [fill_take (s := fill a (Ts.take a.sz)) (ps := ps) (by rw [fill_sz a _ l1, h2]; omega), fill_sz a _ l1]
    · exact fill_fill b (Ts.drop a.sz) (ps.drop ((Ts.take a.sz).map Sh.sz).sum) l2 (by rw [List.length_drop, h2]; omega)
theorem parts_skip (s : Tb) (c m : Nat) (h : tsz s * c < m) : parts s m = List.replicate c (ent s (tsz s)) ++ parts s (m - tsz s * c) := by
  unfold parts
  rw [cut_skip (tsz s) (tsz_pos s) c m h, List.map_append, List.map_replicate]
theorem kN_skip (b : Nat) (hb : 1 ≤ b) : ∀ (c m : Nat), b * c < m → kN m b = c + kN (m - b * c) b
  | 0, m, _ => by rw [Nat.mul_zero, Nat.sub_zero, Nat.zero_add]
  | c + 1, m, h => by
    have e : b * (c + 1) = b * c + b := by rw [Nat.mul_add, Nat.mul_one]
    rw [kN_more (by omega) hb, kN_skip b hb c (m - b) (by omega), show m - b - b * c = m - b * (c + 1) by omega]
    omega
/-- stretches of stretches -/
theorem glue_parts {s t : Tb} (gt : Good t) : ∀ (n m : Nat), m ≤ n → 1 ≤ m → (cut m (tsz s * tsz t)).map (glE s t) = fillEach ((cut (kN m (tsz s)) (tsz t)).map (ent t)) (parts s m)
  | 0, m, h, h1 => by omega
  | n + 1, m, h, h1 => by
    have hp : 1 ≤ tsz s * tsz t := Nat.mul_pos (tsz_pos s) (tsz_pos t)
    by_cases hm : m ≤ tsz s * tsz t
    · rw [cut_one hm, cut_one (kN_le h1 hm)]
      simp only [List.map_cons, List.map_nil, fillEach]
      rw [gt.sz (Nat.succ_pos _) (kN_le h1 hm), List.take_of_length_le (by rw [parts_len h1]; exact Nat.le_refl _)]
      rfl
    · have hk := kN_skip (tsz s) (tsz_pos s) (tsz t) m (by omega)
      have hk1 : 1 ≤ kN (m - tsz s * tsz t) (tsz s) := Nat.succ_pos _
      rw [cut_more (by omega) hp, hk, cut_more (m := tsz t + kN (m - tsz s * tsz t) (tsz s)) (by omega) (tsz_pos t), Nat.add_sub_cancel_left, parts_skip s (tsz t) m (by omega)]
      simp only [List.map_cons, fillEach]
      have ht : (ent t (tsz t)).sz = tsz t := gt.sz (tsz_pos t) (Nat.le_refl _)
      rw [ht, List.take_append_of_le_length (by rw [List.length_replicate]; exact Nat.le_refl _), List.take_of_length_le (by rw [List.length_replicate]; exact Nat.le_refl _)]
      rw [show List.drop (tsz t) (List.replicate (tsz t) (ent s (tsz s)) ++ parts s (m - tsz s * tsz t)) = parts s (m - tsz s * tsz t) by
        have := List.drop_left (l₁ := List.replicate (tsz t) (ent s (tsz s))) (l₂ := parts s (m - tsz s * tsz t))
        rwa [List.length_replicate] at this]
      rw [← glue_parts gt n (m - tsz s * tsz t) (by omega) (by omega)]
      congr 1
      unfold glE parts
      rw [cut_times (tsz s) (tsz_pos s) (tsz t) (tsz_pos t), List.map_replicate]
      congr 2
      have hl := cut_len (tsz s * tsz t) (tsz s * tsz t) (tsz s) (Nat.le_refl _) hp (tsz_pos s)
      rw [cut_times (tsz s) (tsz_pos s) (tsz t) (tsz_pos t), List.length_replicate] at hl
      exact hl.symm
theorem kN_kN {m b c : Nat} (h1 : 1 ≤ m) (hb : 1 ≤ b) (hc : 1 ≤ c) : kN (kN m b) c = kN m (b * c) := by
  show (((m - 1) / b + 1) - 1) / c + 1 = (m - 1) / (b * c) + 1
  rw [Nat.add_sub_cancel, Nat.div_div_eq_div_mul]
theorem glue_assoc {s t u : Tb} (gs : Good s) (gt : Good t) (gu : Good u) : glue (glue s t) u = glue s (glue t u) := by
  show (List.range (tsz (glue s t) * tsz u - 1)).map (fun j => glE (glue s t) u (j + 2)) = (List.range (tsz s * tsz (glue t u) - 1)).map (fun j => glE s (glue t u) (j + 2))
  have e : tsz (glue s t) * tsz u = tsz s * tsz (glue t u) := by rw [glue_tsz, glue_tsz, Nat.mul_assoc]
  rw [e]
  refine List.map_congr_left fun j hj => ?_
  have hj' := List.mem_range.mp hj
  have hm2 : j + 2 ≤ tsz s * tsz (glue t u) := by omega
  have h1 : 1 ≤ j + 2 := by omega
  generalize j + 2 = m at hm2 h1 ⊢
  have hk : 1 ≤ kN m (tsz s) := Nat.succ_pos _
  have hkle : kN m (tsz s) ≤ tsz t * tsz u := by
    have := kN_le (b := tsz s) (c := tsz (glue t u)) h1 hm2
    rwa [glue_tsz] at this
  have left : glE (glue s t) u m = fill (ent u (kN m (tsz s * tsz t))) (fillEach ((cut (kN m (tsz s)) (tsz t)).map (ent t)) (parts s m)) := by
    unfold glE
    rw [glue_tsz]
    congr 1
    rw [← glue_parts gt m m (Nat.le_refl _) h1]
    unfold parts
    rw [glue_tsz]
    refine List.map_congr_left fun x hx => ?_
    obtain ⟨a, b⟩ := cut_mem m m _ (Nat.le_refl _) h1 (Nat.mul_pos (tsz_pos s) (tsz_pos t)) x hx
    exact ent_glue a b
  rw [left]
  unfold glE
  rw [ent_glue hk hkle]
  unfold glE
  rw [fill_fill _ (parts t (kN m (tsz s))) (parts s m) (by
    rw [parts_len hk, gu.sz (Nat.succ_pos _) (kN_le hk hkle)]) (by rw [parts_sz gt hk, parts_len h1]), kN_kN h1 (tsz_pos s) (tsz_pos t)]
  rfl
abbrev glued (s : Tb) (L : List Tb) : Tb := L.foldl glue s
theorem glued_good : ∀ {L : List Tb} {s : Tb}, Good s → (∀ x ∈ L, Good x) → Good (glued s L)
  | [], _, h, _ => h
  | x :: L, s, h, hL => glued_good (L := L) (s := glue s x) (glue_good h (hL x (List.mem_cons_self ..))) fun y hy => hL y (List.mem_cons_of_mem _ hy)
theorem glued_glue : ∀ {L : List Tb} {s t : Tb}, Good s → Good t → (∀ x ∈ L, Good x) → glued (glue s t) L = glue s (glued t L)
  | [], _, _, _, _, _ => rfl
  | x :: L, s, t, gs, gt, hL => by
    have gx := hL x (List.mem_cons_self ..)
    show glued (glue (glue s t) x) L = glue s (glued (glue t x) L)
    rw [glue_assoc gs gt gx]
    exact glued_glue gs (glue_good gt gx) fun y hy => hL y (List.mem_cons_of_mem _ hy)
theorem glued_split {A B : List Tb} {s y : Tb} (gs : Good s) (gA : ∀ x ∈ A, Good x) (gy : Good y) (gB : ∀ x ∈ B, Good x) : glued s (A ++ y :: B) = glue (glued s A) (glued y B) := by
  show (A ++ y :: B).foldl glue s = _
  rw [List.foldl_append]
  show glued (glue (glued s A) y) B = _
  exact glued_glue (glued_good gs gA) gy gB
theorem glued_tsz : ∀ (L : List Tb) (s : Tb), tsz (glued s L) = tsz s * (L.map tsz).prod
  | [], s => by simp
  | x :: L, s => by
    show tsz (glued (glue s x) L) = _
    rw [glued_tsz L (glue s x), glue_tsz, List.map_cons, List.prod_cons, Nat.mul_assoc]
theorem tb_ext {s t : Tb} (hl : s.length = t.length) (h : ∀ m, 2 ≤ m → m ≤ tsz s → ent s m = ent t m) : s = t := by
  apply List.ext_getElem hl
  intro i h1 h2
  have ht : tsz s = s.length + 1 := rfl
  have := h (i + 2) (by omega) (by omega)
  unfold ent at this
  rw [if_neg (by omega), if_neg (by omega), show i + 2 - 2 = i by omega, List.getD_eq_getElem?_getD, List.getD_eq_getElem?_getD, List.getElem?_eq_getElem h1, List.getElem?_eq_getElem h2] at this
  simpa using this
theorem glE_low {s t : Tb} {m : Nat} (h1 : 1 ≤ m) (h2 : m ≤ tsz s) : glE s t m = ent s m := by
  unfold glE parts
  rw [kN_one h1 h2, cut_one h2]
  rfl
end Ev
namespace Ev
open PySem L2
def okT (x : Str) : Prop := ∀ c ∈ x.cps.toList, c < 1114112
theorem okT.app {a b : Str} (ha : okT a) (hb : okT b) : okT (a ++ b) := fun c hc => by
  rw [PyProof.Rows.cps_toList_append] at hc
  rcases List.mem_append.mp hc with h | h
  · exact ha c h
  · exact hb c h
end Ev
namespace Ev
open PySem L2
namespace Sh
def pv : Sh → PV
  | lf => .tup []
  | nd a b => .tup [a.pv, b.pv]
end Sh
/-- tables -/
def tbV (s : Tb) : PV := .tup (s.map Sh.pv)
end Ev
namespace Ev
open PySem L2
theorem pasg_nm (i : Nat) (v : PV) (e : PEnv) : pasg (.nm i) v e = if slFree e[i]? = true then some (e.set i (.sh v)) else none := by simp only [pasg]
theorem pasg_tpt (ts : List Tgt) (vs : List PV) (e : PEnv) : pasg (.tp ts) (.tup vs) e = pasgs ts vs e := by simp only [pasg]
theorem pasg_tpl (ts : List Tgt) (vs : List PV) (e : PEnv) : pasg (.tp ts) (.lst vs) e = pasgs ts vs e := by simp only [pasg]
theorem pasgs_nil (e : PEnv) : pasgs [] [] e = some e := by simp only [pasgs]
theorem pasgs_cons (t : Tgt) (ts : List Tgt) (v : PV) (vs : List PV) (e : PEnv) : pasgs (t :: ts) (v :: vs) e = match pasg t v e with
    | some e' => pasgs ts vs e'
    | none => none := by
  simp only [pasgs] <;> rfl
/-- a slot of which only that it is plain is kept in mind -/
def slOf : Option PV → PSlot
  | none => .un
  | some v => .sh v
theorem sf_none : slFree none = true := rfl
theorem sf_un : slFree (some .un) = true := rfl
theorem sf_sh (v : PV) : slFree (some (.sh v)) = true := rfl
theorem sf_own (v : PV) : slFree (some (.ow .own v)) = true := rfl
theorem sf_of (o : Option PV) : slFree (some (slOf o)) = true := by cases o <;> rfl
theorem c1 : (0 + 1 ≤ cap) = True := eq_true (by decide)
theorem c1l : (0 + 1 < cap) = True := eq_true (by decide)
theorem c2 : (0 + 1 + 1 ≤ cap) = True := eq_true (by decide)
theorem c2l : (0 + 1 + 1 < cap) = True := eq_true (by decide)
theorem c3 : (0 + 1 + 1 + 1 ≤ cap) = True := eq_true (by decide)
theorem c3l : (0 + 1 + 1 + 1 < cap) = True := eq_true (by decide)
theorem c4 : (0 + 1 + 1 + 1 + 1 ≤ cap) = True := eq_true (by decide)
theorem c4l : (0 + 1 + 1 + 1 + 1 < cap) = True := eq_true (by decide)
theorem c5 : (0 + 1 + 1 + 1 + 1 + 1 ≤ cap) = True := eq_true (by decide)
theorem c5l : (0 + 1 + 1 + 1 + 1 + 1 < cap) = True := eq_true (by decide)
theorem c6 : (0 + 1 + 1 + 1 + 1 + 1 + 1 ≤ cap) = True := eq_true (by decide)
theorem c6l : (0 + 1 + 1 + 1 + 1 + 1 + 1 < cap) = True := eq_true (by decide)
theorem c7 : (0 + 1 + 1 + 1 + 1 + 1 + 1 + 1 ≤ cap) = True := eq_true (by decide)
theorem c7l : (0 + 1 + 1 + 1 + 1 + 1 + 1 + 1 < cap) = True := eq_true (by decide)
theorem c8 : (0 + 1 + 1 + 1 + 1 + 1 + 1 + 1 + 1 ≤ cap) = True := eq_true (by decide)
theorem c8l : (0 + 1 + 1 + 1 + 1 + 1 + 1 + 1 + 1 < cap) = True := eq_true (by decide)
theorem c9 : (0 + 1 + 1 + 1 + 1 + 1 + 1 + 1 + 1 + 1 ≤ cap) = True := eq_true (by decide)
theorem c9l : (0 + 1 + 1 + 1 + 1 + 1 + 1 + 1 + 1 + 1 < cap) = True := eq_true (by decide)
theorem c10 : (0 + 1 + 1 + 1 + 1 + 1 + 1 + 1 + 1 + 1 + 1 ≤ cap) = True := eq_true (by decide)
theorem c10l : (0 + 1 + 1 + 1 + 1 + 1 + 1 + 1 + 1 + 1 + 1 < cap) = True := eq_true (by decide)
theorem c11 : (0 + 1 + 1 + 1 + 1 + 1 + 1 + 1 + 1 + 1 + 1 + 1 ≤ cap) = True := eq_true (by decide)
theorem c11l : (0 + 1 + 1 + 1 + 1 + 1 + 1 + 1 + 1 + 1 + 1 + 1 < cap) = True := eq_true (by decide)
theorem c12 : (0 + 1 + 1 + 1 + 1 + 1 + 1 + 1 + 1 + 1 + 1 + 1 + 1 ≤ cap) = True := eq_true (by decide)
theorem c12l : (0 + 1 + 1 + 1 + 1 + 1 + 1 + 1 + 1 + 1 + 1 + 1 + 1 < cap) = True := eq_true (by decide)
theorem c13 : (0 + 1 + 1 + 1 + 1 + 1 + 1 + 1 + 1 + 1 + 1 + 1 + 1 + 1 ≤ cap) = True := eq_true (by decide)
theorem c14 : (0 + 1 + 1 + 1 + 1 + 1 + 1 + 1 + 1 + 1 + 1 + 1 + 1 + 1 + 1 ≤ cap) = True := eq_true (by decide)
theorem c15 : (0 + 1 + 1 + 1 + 1 + 1 + 1 + 1 + 1 + 1 + 1 + 1 + 1 + 1 + 1 + 1 ≤ cap) = True := eq_true (by decide)
theorem c16 : (0 + 1 + 1 + 1 + 1 + 1 + 1 + 1 + 1 + 1 + 1 + 1 + 1 + 1 + 1 + 1 + 1 ≤ cap) = True := eq_true (by decide)
theorem c17 : (0 + 1 + 1 + 1 + 1 + 1 + 1 + 1 + 1 + 1 + 1 + 1 + 1 + 1 + 1 + 1 + 1 + 1 ≤ cap) = True := eq_true (by decide)
theorem c18 : (0 + 1 + 1 + 1 + 1 + 1 + 1 + 1 + 1 + 1 + 1 + 1 + 1 + 1 + 1 + 1 + 1 + 1 + 1 ≤ cap) = True := eq_true (by decide)
theorem c19 : (0 + 1 + 1 + 1 + 1 + 1 + 1 + 1 + 1 + 1 + 1 + 1 + 1 + 1 + 1 + 1 + 1 + 1 + 1 + 1 ≤ cap) = True := eq_true (by decide)
theorem c20 : (0 + 1 + 1 + 1 + 1 + 1 + 1 + 1 + 1 + 1 + 1 + 1 + 1 + 1 + 1 + 1 + 1 + 1 + 1 + 1 + 1 ≤ cap) = True := eq_true (by decide)
theorem fS1 (a : PSlot) (e : PEnv) : finSlots 1 (a :: e) = [finSl a] := rfl
theorem fS2 (a b : PSlot) (e : PEnv) : finSlots 2 (a :: b :: e) = [finSl a, finSl b] := rfl
theorem fS3 (a b c : PSlot) (e : PEnv) : finSlots 3 (a :: b :: c :: e) = [finSl a, finSl b, finSl c] := rfl
theorem fS4 (a b c d : PSlot) (e : PEnv) : finSlots 4 (a :: b :: c :: d :: e) = [finSl a, finSl b, finSl c, finSl d] := rfl
end Ev
namespace Ev
open PySem L2
theorem sIx_N (n d k : Nat) : HT.sIx n d (some (k : Int)) = min k n := HT.sIx_nat n d k
theorem cut_hi (vs : List PV) (k : Nat) : cutP vs none (some (k : Int)) = vs.take k := by
  unfold cutP
  rw [sIx_N]
  show (vs.drop 0).take (min k vs.length - 0) = vs.take k
  rw [List.drop_zero, Nat.sub_zero]
  by_cases h : k ≤ vs.length
  · rw [Nat.min_eq_left h]
  · rw [Nat.min_eq_right (by omega), List.take_of_length_le (Nat.le_refl _), List.take_of_length_le (by omega)]
def sideT (left : Bool) : Str := if left then "left" else "right"
end Ev
namespace Ev
open PySem L2
/-- a slot that tells v: at hand, or lent to be read -/
def Rd (sl : PSlot) (v : PV) : Prop := sl = .sh v ∨ sl = .ow .lk v
theorem Rd.sh (v : PV) : Rd (.sh v) v := .inl rfl
theorem Rd.lk (v : PV) : Rd (.ow .lk v) v := .inr rfl
theorem len_tup (vs : List PV) : opLen [.tup vs] = some (false, .int (vs.length : Nat)) := rfl
theorem len_lst (vs : List PV) : opLen [.lst vs] = some (false, .int (vs.length : Nat)) := rfl
theorem len_dic (ks : List Key) (vs : List PV) : opLen [.dic ks vs] = some (false, .int (ks.length : Nat)) := rfl
theorem len_dit (ks : List (List Key)) (vs : List PV) : opLen [.dit ks vs] = some (false, .int (ks.length : Nat)) := rfl
theorem len_tb (s : Tb) : opLen [tbV s] = some (false, .int (s.length : Nat)) := by simp only [tbV, opLen, List.length_map]
theorem cutV_tup (vs : List PV) (lo hi : Option Int) : cutV (.tup vs) lo hi = some (false, .tup (cutP vs lo hi)) := rfl
theorem cutV_lst (vs : List PV) (lo hi : Option Int) : cutV (.lst vs) lo hi = some (true, .lst (cutP vs lo hi)) := rfl
theorem cutV_tb_hi (s : Tb) (k : Nat) : cutV (tbV s) none (some (k : Int)) = some (false, tbV (s.take k)) := by simp only [tbV, cutV, cut_hi, List.map_take]
theorem enumP_tup (vs : List PV) : enumP [.tup vs] = some (enumL 0 vs) := rfl
theorem enumP_lst (vs : List PV) : enumP [.lst vs] = some (enumL 0 vs) := rfl
theorem enumP_tb (s : Tb) : enumP [tbV s] = some (enumL 0 (s.map Sh.pv)) := rfl
theorem opIx_tup (vs : List PV) (i : Int) : opIx [.tup vs, .int i] = (atI vs i).map fun v => (false, v) := rfl
theorem opIx_lst (vs : List PV) (i : Int) : opIx [.lst vs, .int i] = (atI vs i).map fun v => (false, v) := rfl
theorem opTuple_tup (vs : List PV) : opTuple [.tup vs] = some (false, .tup vs) := rfl
theorem opTuple_lst (vs : List PV) : opTuple [.lst vs] = some (false, .tup vs) := rfl
theorem opTuple_tb (s : Tb) : opTuple [tbV s] = some (false, tbV s) := rfl
theorem opList_tup (vs : List PV) : opList [.tup vs] = some (true, .lst vs) := rfl
theorem opList_lst (vs : List PV) : opList [.lst vs] = some (true, .lst vs) := rfl
theorem opAdd_ii (i j : Int) : opAdd [.int i, .int j] = some (false, .int (i + j)) := rfl
theorem opAdd_ss (a b : Str) : opAdd [.str a, .str b] = if a.length + b.length ≤ cap then some (false, .str (a ++ b)) else none := rfl
theorem opAdd_tt (a b : List PV) : opAdd [.tup a, .tup b] = if a.length + b.length ≤ cap then some (false, .tup (a ++ b)) else none := rfl
theorem opAdd_ll (a b : List PV) : opAdd [.lst a, .lst b] = if a.length + b.length ≤ cap then some (true, .lst (a ++ b)) else none := rfl
theorem opList_tb (s : Tb) : opList [tbV s] = some (true, .lst (s.map Sh.pv)) := rfl
end Ev
namespace Ev
open PySem L2
theorem s_get {s : Tb} {m : Nat} (h1 : 2 ≤ m) (h2 : m ≤ tsz s) : s[m - 2]? = some (ent s m) := by
  have h2' : m ≤ s.length + 1 := h2
  have hm : ¬ m = 1 := by omega
  rw [List.getElem?_eq_getElem (by omega)]
  simp [ent, hm, List.getD_eq_getElem?_getD, List.getElem?_eq_getElem (show m - 2 < s.length by omega)]
end Ev
namespace Ev
open PySem L2
/-- the stretches of b of m lumps -/
def strN (m b : Nat) : List (Nat × Nat) := (List.range (kN m b)).map fun i => (i * b, min (i * b + b) m)
theorem kN_pos (m b : Nat) : 1 ≤ kN m b := Nat.succ_pos _
theorem prod_pos : ∀ l : List Tb, 1 ≤ (l.map tsz).prod
  | [] => Nat.le_refl _
  | x :: l => by
    rw [List.map_cons, List.prod_cons]
    exact Nat.mul_pos (tsz_pos x) (prod_pos l)
end Ev
namespace Ev
open PySem L2
/-- intervals told by their lengths -/
def ivs : Nat → List Nat → List (Nat × Nat)
  | _, [] => []
  | a, n :: ns => (a, a + n) :: ivs (a + n) ns
theorem ivs_app : ∀ (A B : List Nat) (a : Nat), ivs a (A ++ B) = ivs a A ++ ivs (a + A.sum) B
  | [], B, a => rfl
  | n :: A, B, a => by
    rw [List.cons_append, ivs, ivs, ivs_app A B, List.sum_cons, ← Nat.add_assoc]
    rfl
theorem ivs_len : ∀ (ns : List Nat) (a : Nat), (ivs a ns).length = ns.length
  | [], a => rfl
  | n :: ns, a => by rw [ivs, List.length_cons, List.length_cons, ivs_len ns]
theorem ivs_mem : ∀ {ns : List Nat} {a : Nat} {p : Nat × Nat}, (∀ n ∈ ns, 1 ≤ n) → p ∈ ivs a ns → a ≤ p.1 ∧ p.1 < p.2 ∧ p.2 ≤ a + ns.sum ∧ p.2 - p.1 ∈ ns
  | [], a, p, _, h => by cases h
  | n :: ns, a, p, hn, h => by
    have h1 := hn n (List.mem_cons_self ..)
    rw [ivs] at h
    rw [List.sum_cons]
    rcases List.mem_cons.mp h with rfl | h
    · exact ⟨Nat.le_refl _, by show a < a + n; omega, by show a + n ≤ _; omega, by show a + n - a ∈ _; rw [Nat.add_sub_cancel_left]; exact List.mem_cons_self ..⟩
    · obtain ⟨g1, g2, g3, g4⟩ := ivs_mem (fun x hx => hn x (List.mem_cons_of_mem _ hx)) h
      exact ⟨by omega, g2, by omega, List.mem_cons_of_mem _ g4⟩
theorem ivs_whole : ∀ {ns : List Nat} {a : Nat}, (∀ n ∈ ns, 1 ≤ n) → (a, a + ns.sum) ∈ ivs a ns → ∃ n, ns = [n]
  | [], a, _, h => by cases h
  | n :: ns, a, hn, h => by
    have h1 := hn n (List.mem_cons_self ..)
    rw [ivs] at h
    rw [List.sum_cons] at h
    rcases List.mem_cons.mp h with h | h
    · cases ns with
      | nil => exact ⟨n, rfl⟩
      | cons m ns =>
        have h2 := hn m (by simp)
        simp only [Prod.mk.injEq, List.sum_cons] at h
        omega
    · have := (ivs_mem (fun x hx => hn x (List.mem_cons_of_mem _ hx)) h).1
      have : a + n ≤ a := this
      omega
theorem str_ivs : ∀ (n m b a : Nat), m ≤ n → 1 ≤ m → 1 ≤ b → (List.range (kN m b)).map (fun i => (a + i * b, a + min (i * b + b) m)) = ivs a (cut m b)
  | 0, m, b, a, h, h1, _ => by omega
  | n + 1, m, b, a, h, h1, hb => by
    by_cases hm : m ≤ b
    · rw [cut_one hm, kN_one h1 hm]
      show [(a + 0 * b, a + min (0 * b + b) m)] = [(a, a + m)]
      rw [Nat.zero_mul, Nat.zero_add, Nat.min_eq_right hm, Nat.add_zero]
    · rw [cut_more (by omega) hb, kN_more (by omega) hb, List.range_succ_eq_map, List.map_cons, List.map_map, ivs, ← str_ivs n (m - b) b (a + b) (by omega) (by omega) hb]
      congr 1
      · rw [Nat.zero_mul, Nat.zero_add, Nat.min_eq_left (by omega), Nat.add_zero]
      · refine List.map_congr_left fun i _ => ?_
        show (a + (i + 1) * b, a + min ((i + 1) * b + b) m) = (a + b + i * b, a + b + min (i * b + b) (m - b))
        rw [Nat.succ_mul]
        congr 1 <;> omega
theorem strN_ivs {m b : Nat} (h1 : 1 ≤ m) (hb : 1 ≤ b) : strN m b = ivs 0 (cut m b) := by
  rw [← str_ivs m m b 0 (Nat.le_refl _) h1 hb]
  unfold strN
  refine List.map_congr_left fun i _ => ?_
  rw [Nat.zero_add, Nat.zero_add]
/-- the part of a shape that begins at a with the places from i to j - 1 -/
def sub : Sh → Nat → Nat → Nat → Option Sh
  | .lf, a, i, j => if i = a ∧ j = a + 1 then some .lf else none
  | .nd l r, a, i, j => if i = a ∧ j = a + (l.sz + r.sz) then some (.nd l r) else if j ≤ a + l.sz then sub l a i j else if a + l.sz ≤ i then sub r (a + l.sz) i j else none
theorem sub_self : ∀ (x : Sh) (a : Nat), sub x a a (a + x.sz) = some x
  | .lf, a => by unfold sub; rw [if_pos ⟨rfl, rfl⟩]
  | .nd l r, a => by unfold sub; rw [if_pos ⟨rfl, rfl⟩]
theorem sub_in : ∀ {x : Sh} {a i j : Nat} {y : Sh}, sub x a i j = some y → a ≤ i ∧ j = i + y.sz ∧ j ≤ a + x.sz
  | .lf, a, i, j, y, h => by
    unfold sub at h
    split at h
    · rename_i hc; cases h; exact ⟨by omega, by show j = i + 1; omega, by show j ≤ a + 1; omega⟩
    · cases h
  | .nd l r, a, i, j, y, h => by
    have e : (Sh.nd l r).sz = l.sz + r.sz := rfl
    unfold sub at h
    split at h
    · rename_i hc; cases h; exact ⟨by omega, by omega, by omega⟩
    · split at h
      · obtain ⟨g1, g2, g3⟩ := sub_in h
        exact ⟨g1, g2, by omega⟩
      · split at h
        · obtain ⟨g1, g2, g3⟩ := sub_in h
          exact ⟨by omega, g2, by omega⟩
        · cases h
def abv : Sh → Nat → List (Nat × Nat) → Sh
  | .lf, _, _ => .lf
  | .nd l r, a, P => if (a, a + (l.sz + r.sz)) ∈ P then .lf else .nd (abv l a P) (abv r (a + l.sz) P)
theorem fill_one (q : Sh) : fill .lf [q] = q := rfl
theorem fill_app {u1 u2 : Sh} {A B : List Sh} (h : u1.sz = A.length) : fill (.nd u1 u2) (A ++ B) = .nd (fill u1 A) (fill u2 B) := by
  rw [fill_nd (by rw [List.length_append]; omega), h, List.drop_left, fill_take (s := u1) (ps := A ++ B) (by rw [List.length_append]; omega), h, List.take_left]
theorem fill_size : ∀ (u : Sh) (qs : List Sh), u.sz = qs.length → (fill u qs).sz = (qs.map Sh.sz).sum
  | .lf, qs, h => by
    have h0 : Sh.lf.sz = 1 := rfl
    match qs, h with
    | [q], _ => simp [fill_one]
  | .nd u1 u2, qs, h => by
    have h0 : (Sh.nd u1 u2).sz = u1.sz + u2.sz := rfl
    have e : qs = qs.take u1.sz ++ qs.drop u1.sz := (List.take_append_drop _ _).symm
    rw [e, fill_app (by rw [List.length_take]; omega), List.map_append, List.sum_append]
    show (fill u1 _).sz + (fill u2 _).sz = _
    rw [fill_size u1 _ (by rw [List.length_take]; omega), fill_size u2 _ (by rw [List.length_drop]; omega)]
/-- .. and the other way -/
theorem tellC : ∀ (u : Sh) (qs : List Sh) (a : Nat) (P : List (Nat × Nat)), u.sz = qs.length → (∀ i j, a ≤ i → i < j → j ≤ a + (fill u qs).sz → ((i, j) ∈ P ↔ (i, j) ∈ ivs a (qs.map Sh.sz))) →
    abv (fill u qs) a P = u ∧ ∀ (k : Nat) (p : Nat × Nat) (q : Sh), (ivs a (qs.map Sh.sz))[k]? = some p → qs[k]? = some q → sub (fill u qs) a p.1 p.2 = some q
  | .lf, qs, a, P, h, hP => by
    have h0 : Sh.lf.sz = 1 := rfl
    match qs, h with
    | [q], _ =>
      rw [fill_one] at hP ⊢
      refine ⟨?_, fun k p q' h1 h2 => ?_⟩
      · cases q with
        | lf => rfl
        | nd l r =>
          have hq : (Sh.nd l r).sz = l.sz + r.sz := rfl
          have hlp := l.sz_pos
          unfold abv
          rw [if_pos ((hP a (a + (l.sz + r.sz)) (Nat.le_refl _) (by omega) (Nat.le_refl _)).mpr (by simp [ivs, hq]))]
      · match k, h1, h2 with
        | 0, h1, h2 =>
          simp [ivs] at h1 h2
          subst h1; subst h2
          exact sub_self q a
        | k + 1, h1, h2 => simp at h2
  | .nd u1 u2, qs, a, P, h, hP => by
    have h0 : (Sh.nd u1 u2).sz = u1.sz + u2.sz := rfl
    have hu1 := u1.sz_pos
    have hu2 := u2.sz_pos
    obtain ⟨A, B, rfl, lA⟩ : ∃ A B, qs = A ++ B ∧ A.length = u1.sz := ⟨qs.take u1.sz, qs.drop u1.sz, (List.take_append_drop _ _).symm, by rw [List.length_take]; omega⟩
    rw [List.length_append] at h
    have lB : B.length = u2.sz := by omega
    have sA := fill_size u1 A lA.symm
    have sB := fill_size u2 B lB.symm
    have pos : ∀ L : List Sh, ∀ n ∈ L.map Sh.sz, 1 ≤ n := fun L n hn => by
      obtain ⟨x, _, rfl⟩ := List.mem_map.mp hn
      exact x.sz_pos
    have hLp := (fill u1 A).sz_pos
    have hRp := (fill u2 B).sz_pos
    rw [fill_app lA.symm] at hP ⊢
    have hsz : (Sh.nd (fill u1 A) (fill u2 B)).sz = (fill u1 A).sz + (fill u2 B).sz := rfl
    rw [hsz] at hP
    have hap : ivs a ((A ++ B).map Sh.sz) = ivs a (A.map Sh.sz) ++ ivs (a + (fill u1 A).sz) (B.map Sh.sz) := by rw [List.map_append, ivs_app, sA]
    have hw : ¬ (a, a + ((fill u1 A).sz + (fill u2 B).sz)) ∈ ivs a ((A ++ B).map Sh.sz) := fun z => by
      rw [show (fill u1 A).sz + (fill u2 B).sz = ((A ++ B).map Sh.sz).sum by rw [List.map_append, List.sum_append, sA, sB]] at z
      obtain ⟨n, hn⟩ := ivs_whole (pos _) z
      have := congrArg List.length hn
      rw [List.length_map, List.length_append, List.length_singleton] at this
      omega
    have hnin : ¬ (a, a + ((fill u1 A).sz + (fill u2 B).sz)) ∈ P := fun z => hw ((hP _ _ (Nat.le_refl _) (by omega) (Nat.le_refl _)).mp z)
    rw [hap] at hP ⊢
    obtain ⟨a1, a2⟩ := tellC u1 A a P lA.symm (fun i j h1 h2 h3 => by
      rw [hP i j h1 h2 (by omega), List.mem_append]
      refine ⟨fun h => h.elim id fun h => ?_, .inl⟩
      have := (ivs_mem (pos B) h).1
      have : a + (fill u1 A).sz ≤ i := this
      omega)
    obtain ⟨b1, b2⟩ := tellC u2 B (a + (fill u1 A).sz) P lB.symm (fun i j h1 h2 h3 => by
      rw [hP i j (by omega) h2 (by omega), List.mem_append]
      refine ⟨fun h => h.elim (fun h => ?_) id, .inr⟩
      have := (ivs_mem (pos A) h).2.2.1
      have : j ≤ a + (A.map Sh.sz).sum := this
      omega)
    refine ⟨?_, fun k p q h1 h2 => ?_⟩
    · unfold abv
      rw [if_neg hnin, a1, b1]
    · by_cases hk : k < A.length
      · rw [List.getElem?_append_left (by rw [ivs_len, List.length_map]; exact hk)] at h1
        rw [List.getElem?_append_left hk] at h2
        have := a2 k p q h1 h2
        obtain ⟨g1, g2, g3, _⟩ := ivs_mem (pos A) (List.mem_of_getElem? h1)
        unfold sub
        rw [if_neg (by omega), if_pos (by omega)]
        exact this
      · rw [List.getElem?_append_right (by rw [ivs_len, List.length_map]; omega), ivs_len, List.length_map] at h1
        rw [List.getElem?_append_right (by omega)] at h2
        have := b2 (k - A.length) p q h1 h2
        obtain ⟨g1, g2, g3, _⟩ := ivs_mem (pos B) (List.mem_of_getElem? h1)
        unfold sub
        rw [if_neg (by omega), if_neg (by omega), if_pos (by omega)]
        exact this
end Ev
namespace Ev
open PySem L2
theorem take_tsz {T : Tb} {b : Nat} (h1 : 1 ≤ b) (h2 : b ≤ tsz T) : tsz (T.take (b - 1)) = b := by
  have hl : tsz T = T.length + 1 := rfl
  show (T.take (b - 1)).length + 1 = b
  rw [List.length_take]; omega
theorem ent_take {T : Tb} {b m : Nat} (h1 : 1 ≤ m) (h2 : m ≤ b) (h3 : b ≤ tsz T) : ent (T.take (b - 1)) m = ent T m := by
  by_cases hm : m = 1
  · subst hm; rfl
  · have a := s_get (s := T) (m := m) (by omega) (by omega)
    have c := s_get (s := T.take (b - 1)) (m := m) (by omega) (by rw [take_tsz (by omega) h3]; exact h2)
    rw [List.getElem?_take_of_lt (by omega), a] at c
    exact (Option.some.inj c).symm
theorem good_take {T : Tb} {b : Nat} (g : Good T) (h1 : 1 ≤ b) (h2 : b ≤ tsz T) : Good (T.take (b - 1)) := fun m m1 m2 => by
  rw [take_tsz h1 h2] at m2
  rw [ent_take (by omega) m2 h2]
  exact g m m1 (by omega)
structure Cut (T : Tb) (b : Nat) (t : Tb) : Prop where
  good : Good t
  eq : T = glue (T.take (b - 1)) t
theorem Cut.size {T t : Tb} {b : Nat} (h : Cut T b t) (h1 : 1 ≤ b) (h2 : b ≤ tsz T) : tsz T = b * tsz t := by
  have := glue_tsz (T.take (b - 1)) t
  rw [← h.eq, take_tsz h1 h2] at this
  exact this
def okm (T : Tb) (b m : Nat) : Prop := ∀ p ∈ strN m b, sub (ent T m) 0 p.1 p.2 = some (ent T (p.2 - p.1))
theorem ivs_get : ∀ (ns : List Nat) (a k : Nat) (p : Nat × Nat), (ivs a ns)[k]? = some p → ns[k]? = some (p.2 - p.1)
  | [], a, k, p, h => by simp [ivs] at h
  | n :: ns, a, 0, p, h => by
    simp [ivs] at h
    subst h
    simp
  | n :: ns, a, k + 1, p, h => by
    simp only [ivs, List.getElem?_cons_succ] at h ⊢
    exact ivs_get ns (a + n) k p h
theorem parts_szs {s : Tb} (g : Good s) {m : Nat} (h1 : 1 ≤ m) : (parts s m).map Sh.sz = cut m (tsz s) := by
  unfold parts
  rw [List.map_map]
  conv => rhs; rw [← List.map_id (cut m (tsz s))]
  refine List.map_congr_left fun n hn => ?_
  obtain ⟨a, b⟩ := cut_mem m m (tsz s) (Nat.le_refl _) h1 (tsz_pos s) n hn
  exact g.sz a b
theorem Cut.ok {T t : Tb} {b m : Nat} (h : Cut T b t) (gT : Good T) (b1 : 1 ≤ b) (b2 : b ≤ tsz T) (m1 : 1 ≤ m) (m2 : m ≤ tsz T) : okm T b m ∧ abv (ent T m) 0 (strN m b) = ent t (kN m b) := by
  have gs := good_take gT b1 b2
  have hs := take_tsz b1 b2
  have hz := h.size b1 b2
  have he : ent T m = glE (T.take (b - 1)) t m := by
    have := ent_glue (s := T.take (b - 1)) (t := t) m1 (by rw [hs, ← hz]; exact m2)
    rw [← h.eq] at this
    exact this
  have hk : kN m b ≤ tsz t := kN_le m1 (by rw [← hz]; exact m2)
  have hpl := parts_len (s := T.take (b - 1)) m1
  have hps := parts_szs gs m1
  rw [hs] at hpl hps
  obtain ⟨c1, c2⟩ := tellC (ent t (kN m b)) (parts (T.take (b - 1)) m) 0 (strN m b) (by rw [hpl, h.good.sz (kN_pos m b) hk]) (fun i j _ _ _ => by rw [hps, strN_ivs m1 b1])
  unfold glE at he
  rw [hs] at he
  rw [he]
  refine ⟨fun p hp => ?_, c1⟩
  rw [strN_ivs m1 b1, ← hps] at hp
  obtain ⟨k, hk1, hk2⟩ := List.getElem_of_mem hp
  have hp' := List.getElem?_eq_getElem hk1
  rw [hk2] at hp'
  have hn := ivs_get _ _ _ _ hp'
  rw [List.getElem?_map] at hn
  have hkl : k < (parts (T.take (b - 1)) m).length := by rw [ivs_len, List.length_map] at hk1; exact hk1
  have hq := List.getElem?_eq_getElem hkl
  have := c2 k p _ hp' hq
  rw [he, this]
  congr 1
  have hq2 : (parts (T.take (b - 1)) m)[k]? = ((cut m b)[k]?).map (ent (T.take (b - 1))) := by
    unfold parts
    rw [List.getElem?_map, hs]
  have hc : (cut m b)[k]? = some (p.2 - p.1) := by rw [← hps, List.getElem?_map]; exact hn
  rw [hc, hq] at hq2
  rw [Option.some.inj hq2]
  have hmem := List.mem_of_getElem? hc
  obtain ⟨a1, a2⟩ := cut_mem m m b (Nat.le_refl _) m1 b1 _ hmem
  exact ent_take a1 a2 b2
theorem kN_mul {k b : Nat} (hk : 1 ≤ k) (hb : 1 ≤ b) : kN (k * b) b = k := by
  have h1 : 1 ≤ k * b := Nat.mul_pos hk hb
  have := cut_times b hb k hk
  have h2 := cut_len (b * k) (b * k) b (Nat.le_refl _) (by rw [Nat.mul_comm]; exact h1) hb
  rw [this, List.length_replicate, Nat.mul_comm] at h2
  exact h2.symm
/-- the table that lies above the stretches of b -/
def abvT (T : Tb) (b c : Nat) : Tb := (List.range (c - 1)).map fun i => abv (ent T ((2 + i) * b)) 0 (strN ((2 + i) * b) b)
theorem abvT_tsz {T : Tb} {b c : Nat} (h : 1 ≤ c) : tsz (abvT T b c) = c := by
  show (abvT T b c).length + 1 = c
  unfold abvT
  rw [List.length_map, List.length_range]; omega
theorem abvT_ent {T : Tb} {b c k : Nat} (k1 : 2 ≤ k) (k2 : k ≤ c) : ent (abvT T b c) k = abv (ent T (k * b)) 0 (strN (k * b) b) := by
  have := s_get (s := abvT T b c) (m := k) k1 (by rw [abvT_tsz (by omega)]; exact k2)
  unfold abvT at this
  rw [List.getElem?_map, List.getElem?_range (by omega), Option.map_some, show 2 + (k - 2) = k by omega] at this
  exact (Option.some.inj this).symm
theorem Cut.abvT {T t : Tb} {b c : Nat} (h : Cut T b t) (gT : Good T) (b1 : 1 ≤ b) (b2 : b ≤ tsz T) (hc : tsz T = b * c) : t = Ev.abvT T b c := by
  have hz := h.size b1 b2
  have hct : tsz t = c := Nat.eq_of_mul_eq_mul_left b1 (hz.symm.trans hc)
  have c1 : 1 ≤ c := by rw [← hct]; exact tsz_pos t
  refine tb_ext (Nat.succ.inj (hct.trans (abvT_tsz c1).symm)) fun k k1 k2 => ?_
  rw [hct] at k2
  rw [abvT_ent k1 k2, (h.ok gT b1 b2 (Nat.mul_pos (by omega) b1) (by rw [hc, Nat.mul_comm]; exact Nat.mul_le_mul_left _ k2)).2, kN_mul (by omega) b1]
/-- a lesser cut of the entries up to a cut is a cut -/
theorem Cut.low {T t u : Tb} {b c : Nat} (h : Cut T b t) (gT : Good T) (b1 : 1 ≤ b) (b2 : b ≤ tsz T) (c1 : 1 ≤ c) (c2 : c ≤ b) (hu : Cut (T.take (b - 1)) c u) : Cut T c (glue u t) := by
  refine ⟨glue_good hu.good h.good, ?_⟩
  have e : (T.take (b - 1)).take (c - 1) = T.take (c - 1) := by rw [List.take_take, Nat.min_eq_left (by omega)]
  have h1 := hu.eq
  rw [e] at h1
  have gc : Good (T.take (c - 1)) := good_take gT c1 (by omega)
  rw [← glue_assoc gc hu.good h.good, ← h1]
  exact h.eq
open Classical in
/-- the cuts, ascending -/
noncomputable def cutsL (T : Tb) : List Nat := ((List.range (tsz T - 2)).map fun i => 2 + i).filter fun b => decide (∃ t, Cut T b t)
theorem cutsL_mem {T : Tb} {b : Nat} : b ∈ cutsL T ↔ 2 ≤ b ∧ b < tsz T ∧ ∃ t, Cut T b t := by
  unfold cutsL
  rw [List.mem_filter, List.mem_map]; simp only [decide_eq_true_eq]
  refine ⟨fun ⟨⟨i, hi, h⟩, h2⟩ => ?_, fun ⟨h1, h2, h3⟩ => ⟨⟨b - 2, List.mem_range.mpr (by omega), by omega⟩, h3⟩⟩
  have := List.mem_range.mp hi
  exact ⟨by omega, by omega, h2⟩
theorem cutsL_least {T : Tb} {b : Nat} {L : List Nat} (h : cutsL T = b :: L) : ∀ c, 2 ≤ c → c < b → ¬ ∃ t, Cut T c t := fun c c1 c2 hc => by
  have hp : List.Pairwise (· < ·) (cutsL T) := by
    unfold cutsL
    refine List.Pairwise.filter _ ?_
    rw [List.pairwise_map]
    exact List.Pairwise.imp (fun h => by omega) List.pairwise_lt_range
  have hb := (cutsL_mem (T := T) (b := b)).mp (by rw [h]; exact List.mem_cons_self ..)
  have hm := (cutsL_mem (T := T) (b := c)).mpr ⟨c1, by omega, hc⟩
  rw [h] at hm hp
  rcases List.mem_cons.mp hm with rfl | hm
  · omega
  · have := (List.pairwise_cons.mp hp).1 c hm
    omega
/-- the entries up to the least cut are prime -/
theorem least_prime {T : Tb} {b : Nat} {L : List Nat} (gT : Good T) (h : cutsL T = b :: L) : cutsL (T.take (b - 1)) = [] := by
  obtain ⟨b1, b2, t, ht⟩ := (cutsL_mem (T := T) (b := b)).mp (by rw [h]; exact List.mem_cons_self ..)
  rw [List.eq_nil_iff_forall_not_mem]
  intro c hc
  obtain ⟨c1, c2, u, hu⟩ := cutsL_mem.mp hc
  rw [take_tsz (by omega) (by omega)] at c2
  exact cutsL_least h c c1 c2 ⟨_, ht.low gT (by omega) (by omega) (by omega) (by omega) hu⟩
theorem cut_behind {T : Tb} {b : Nat} (gT : Good T) (h : b ∈ cutsL T) : ∃ c, 2 ≤ b ∧ 2 ≤ c ∧ tsz T = b * c ∧ tsz T / b = c ∧ Cut T b (abvT T b c) := by
  obtain ⟨b1, b2, t, ht⟩ := cutsL_mem.mp h
  have hz := ht.size (by omega) (by omega)
  have hc : t = abvT T b (tsz t) := ht.abvT gT (by omega) (by omega) hz
  refine ⟨tsz t, b1, ?_, hz, ?_, ?_⟩
  · have := tsz_pos t
    rcases Nat.lt_or_ge (tsz t) 2 with h | h
    · have : tsz t = 1 := by omega
      rw [this] at hz; omega
    · exact h
  · rw [hz, Nat.mul_div_cancel_left _ (by omega)]
  · rw [← hc]; exact ht
end Ev
namespace Ev
open PySem L2
inductive Pr : Tb → List Tb → Prop
  | one {T : Tb} (h : cutsL T = []) : Pr T [T]
  | more {T : Tb} {b : Nat} {L : List Nat} {M : List Tb} (h : cutsL T = b :: L) (k : Pr (abvT T b (tsz T / b)) M) : Pr T (T.take (b - 1) :: M)
theorem Pr.uniq {T : Tb} {L : List Tb} (h : Pr T L) : ∀ {M : List Tb}, Pr T M → L = M := by
  induction h with
  | one h =>
    intro M hM
    cases hM with
    | one _ => rfl
    | more h2 _ => rw [h] at h2; cases h2
  | more h k ih =>
    intro M hM
    cases hM with
    | one h2 => rw [h2] at h; cases h
    | more h2 k2 =>
      rw [h] at h2
      cases h2
      rw [ih k2]
theorem Pr.all_prime {T : Tb} {L : List Tb} (h : Pr T L) : Good T → ∀ x ∈ L, Good x ∧ cutsL x = [] ∧ tsz x ≤ tsz T := by
  induction h with
  | one h =>
    intro g x hx
    rw [List.mem_singleton] at hx
    subst hx
    exact ⟨g, h, Nat.le_refl _⟩
  | @more T b L M h k ih =>
    intro g x hx
    obtain ⟨c, b1, c1, hz, hd, hc⟩ := cut_behind g (b := b) (by rw [h]; exact List.mem_cons_self ..)
    have hb2 : b ≤ tsz T := by rw [hz]; exact Nat.le_mul_of_pos_right _ (by omega)
    rcases List.mem_cons.mp hx with rfl | hx
    · exact ⟨good_take g (by omega) hb2, least_prime g h, by rw [take_tsz (by omega) hb2]; exact hb2⟩
    · rw [hd] at ih
      obtain ⟨x1, x2, x3⟩ := ih hc.good x hx
      refine ⟨x1, x2, ?_⟩
      rw [abvT_tsz (by omega)] at x3
      have : c ≤ tsz T := by rw [hz]; exact Nat.le_mul_of_pos_left _ (by omega)
      omega
theorem Pr.ne {T : Tb} {L : List Tb} (h : Pr T L) : ∃ x M, L = x :: M := by
  cases h with
  | one _ => exact ⟨_, _, rfl⟩
  | more _ _ => exact ⟨_, _, rfl⟩
theorem Pr.glued {T : Tb} {L : List Tb} (h : Pr T L) : Good T → ∀ x M, L = x :: M → Ev.glued x M = T ∧ tsz x * (M.map tsz).prod = tsz T := by
  induction h with
  | one h =>
    intro g x M e
    cases e
    exact ⟨rfl, by simp⟩
  | @more T b L N h k ih =>
    intro g x M e
    cases e
    obtain ⟨c, b1, c1, hz, hd, hc⟩ := cut_behind g (b := b) (by rw [h]; exact List.mem_cons_self ..)
    have hb2 : b ≤ tsz T := by rw [hz]; exact Nat.le_mul_of_pos_right _ (by omega)
    obtain ⟨y, M, rfl⟩ := k.ne
    have hk := k.all_prime (by rw [hd]; exact hc.good)
    obtain ⟨e1, e2⟩ := ih (by rw [hd]; exact hc.good) y M rfl
    rw [hd] at e1 e2
    rw [abvT_tsz (by omega)] at e2
    refine ⟨?_, ?_⟩
    · show Ev.glued (glue (T.take (b - 1)) y) M = T
      rw [glued_glue (good_take g (by omega) hb2) (hk y (by simp)).1 (fun z hz => (hk z (by simp [hz])).1), e1]
      exact hc.eq.symm
    · rw [List.map_cons, List.prod_cons, e2, take_tsz (by omega) hb2]
      exact hz.symm
theorem Pr.len {T : Tb} {L : List Tb} (h : Pr T L) : Good T → L.length ≤ tsz T := by
  induction h with
  | one h => intro g; have := tsz_pos; simp; 
  | @more T b L N h k ih =>
    intro g
    obtain ⟨c, b1, c1, hz, hd, hc⟩ := cut_behind g (b := b) (by rw [h]; exact List.mem_cons_self ..)
    have := ih (by rw [hd]; exact hc.good)
    rw [hd, abvT_tsz (by omega)] at this
    rw [List.length_cons]
    have : 2 * c ≤ b * c := Nat.mul_le_mul_right _ b1
    omega
end Ev
namespace Ev
open PySem L2
/-- two lumps are apart, or one is within the other -/
theorem sub_lam : ∀ {x : Sh} {a i j i' j' : Nat} {y y' : Sh}, sub x a i j = some y → sub x a i' j' = some y' → i < i' → i' < j → j < j' → False
  | .lf, a, i, j, i', j', y, y', h, h', h1, h2, h3 => by
    have g := sub_in h
    have g' := sub_in h'
    have : Sh.lf.sz = 1 := rfl
    omega
  | .nd l r, a, i, j, i', j', y, y', h, h', h1, h2, h3 => by
    have hl := l.sz_pos
    have hr := r.sz_pos
    have g := sub_in h
    have g' := sub_in h'
    have hz : (Sh.nd l r).sz = l.sz + r.sz := rfl
    unfold sub at h h'
    rw [if_neg (by omega)] at h
    rw [if_neg (by omega)] at h'
    by_cases c1 : j ≤ a + l.sz
    · rw [if_pos c1] at h
      by_cases c2 : j' ≤ a + l.sz
      · rw [if_pos c2] at h'
        exact sub_lam h h' h1 h2 h3
      · rw [if_neg c2] at h'
        by_cases c3 : a + l.sz ≤ i'
        · omega
        · rw [if_neg c3] at h'; cases h'
    · rw [if_neg c1] at h
      by_cases c4 : a + l.sz ≤ i
      · rw [if_pos c4] at h
        rw [if_neg (by omega), if_pos (by omega)] at h'
        exact sub_lam h h' h1 h2 h3
      · rw [if_neg c4] at h; cases h
theorem Cut.lump {T t : Tb} {b : Nat} (h : Cut T b t) (gT : Good T) (b1 : 1 ≤ b) (b2 : b ≤ tsz T) (i : Nat) (hi : (i + 1) * b ≤ tsz T) : ∃ y, sub (ent T (tsz T)) 0 (i * b) ((i + 1) * b) = some y := by
  have hz := h.size b1 b2
  have ho := (h.ok gT b1 b2 (tsz_pos T) (Nat.le_refl _)).1
  have hk : kN (tsz T) b = tsz t := by rw [hz, Nat.mul_comm]; exact kN_mul (tsz_pos t) b1
  have hi2 : i < tsz t := by
    rw [hz, Nat.mul_comm b] at hi
    have := Nat.le_of_mul_le_mul_right hi (by omega)
    omega
  have hm : (i * b, (i + 1) * b) ∈ strN (tsz T) b := by
    unfold strN
    rw [hk]
    refine List.mem_map.mpr ⟨i, List.mem_range.mpr hi2, ?_⟩
    rw [Nat.add_mul, Nat.one_mul, Nat.min_eq_left (by rw [Nat.add_mul, Nat.one_mul] at hi; exact hi)]
  exact ⟨_, ho _ hm⟩
/-- of two cuts the lesser one divides the greater one -/
theorem Cut.dvd {T t u : Tb} {b c : Nat} (hb : Cut T b t) (hc : Cut T c u) (gT : Good T) (c1 : 1 ≤ c) (hcb : c < b) (b2 : b < tsz T) : c ∣ b := by
  by_cases hd : c ∣ b
  · exact hd
  exfalso
  have zb := hb.size (by omega) (by omega)
  have zc := hc.size c1 (by omega)
  have hk1 : b / c * c < b := by
    have h1 := Nat.div_mul_le_self b c
    have h2 : b / c * c ≠ b := fun h => hd ⟨b / c, by rw [Nat.mul_comm]; exact h.symm⟩
    omega
  have hk2 : b < (b / c + 1) * c := by
    have h1 := Nat.div_add_mod b c
    have h2 := Nat.mod_lt b (y := c) (by omega)
    rw [Nat.add_mul, Nat.one_mul, Nat.mul_comm]
    omega
  have hk0 : 1 ≤ b / c := (Nat.le_div_iff_mul_le (by omega)).mpr (by omega)
  have hk3 : (b / c + 1) * c ≤ tsz T := by
    rw [zc, Nat.mul_comm c]
    refine Nat.mul_le_mul_right _ ?_
    have : b / c < tsz u := (Nat.div_lt_iff_lt_mul (by omega)).mpr (by rw [Nat.mul_comm, ← zc]; exact b2)
    omega
  obtain ⟨y, hy⟩ := hb.lump gT (by omega) (by omega) 0 (by omega)
  obtain ⟨z, hz⟩ := hc.lump gT c1 (by omega) (b / c) hk3
  rw [Nat.zero_mul, Nat.zero_add, Nat.one_mul] at hy
  exact sub_lam hy hz (by have := Nat.mul_le_mul hk0 c1; omega) hk1 hk2
theorem glue_take {s t : Tb} {d : Nat} (h1 : 1 ≤ d) (h2 : d ≤ tsz t) : (glue s t).take (tsz s * d - 1) = glue s (t.take (d - 1)) := by
  have hs := tsz_pos s
  have hsd : 1 ≤ tsz s * d := Nat.mul_pos hs h1
  have hle : tsz s * d ≤ tsz (glue s t) := by rw [glue_tsz]; exact Nat.mul_le_mul_left _ h2
  have e1 : tsz ((glue s t).take (tsz s * d - 1)) = tsz s * d := take_tsz hsd hle
  have e2 : tsz (glue s (t.take (d - 1))) = tsz s * d := by rw [glue_tsz, take_tsz h1 h2]
  refine tb_ext (Nat.succ.inj (e1.trans e2.symm)) fun m m1 m2 => ?_
  rw [e1] at m2
  rw [ent_take (by omega) m2 hle, ent_glue (by omega) (by rw [← glue_tsz]; omega), ent_glue (by omega) (by rw [take_tsz h1 h2]; exact m2)]
  unfold glE
  have hk : kN m (tsz s) ≤ d := kN_le (by omega) m2
  rw [ent_take (kN_pos _ _) hk h2]
theorem glue_nil (s : Tb) : glue s [] = s := by
  refine tb_ext ?_ fun m m1 m2 => ?_
  · have h : tsz (glue s []) = tsz s * 1 := glue_tsz s []
    rw [Nat.mul_one] at h
    exact Nat.succ.inj h
  · rw [glue_tsz] at m2
    have : tsz ([] : Tb) = 1 := rfl
    rw [this, Nat.mul_one] at m2
    rw [ent_glue (by omega) (by rw [this]; omega)]
    exact glE_low (by omega) m2
theorem glue_take1 (s t : Tb) : (glue s t).take (tsz s - 1) = s := by
  have := glue_take (s := s) (t := t) (d := 1) (Nat.le_refl _) (tsz_pos t)
  rw [Nat.mul_one] at this
  rw [this, Nat.sub_self, List.take_zero, glue_nil]
theorem cut_glue {s t : Tb} (gt : Good t) : Cut (glue s t) (tsz s) t := ⟨gt, by rw [glue_take1]⟩
/-- a cut cuts the entries up to a multiple -/
theorem Cut.upto {T u : Tb} {b c : Nat} (hc : Cut T c u) (c1 : 1 ≤ c) (hd : c ∣ b) (hcb : c ≤ b) (b2 : b ≤ tsz T) : Cut (T.take (b - 1)) c (u.take (b / c - 1)) := by
  obtain ⟨d, rfl⟩ := hd
  have zc := hc.size c1 (by omega)
  have d1 : 1 ≤ d := by
    rcases Nat.eq_zero_or_pos d with h | h
    · subst h; rw [Nat.mul_zero] at hcb; omega
    · exact h
  have d2 : d ≤ tsz u := by rw [zc] at b2; exact Nat.le_of_mul_le_mul_left b2 (by omega)
  rw [Nat.mul_div_cancel_left _ (by omega)]
  refine ⟨good_take hc.good d1 d2, ?_⟩
  have e : (T.take (c * d - 1)).take (c - 1) = T.take (c - 1) := by
    rw [List.take_take, Nat.min_eq_left (by have := Nat.le_mul_of_pos_right c d1; omega)]
  rw [e]
  have := glue_take (s := T.take (c - 1)) (t := u) d1 d2
  rw [take_tsz c1 (by omega), ← hc.eq] at this
  exact this
theorem Cut.more {T t u : Tb} {b d : Nat} (hb : Cut T b t) (hd : Cut t d u) (gT : Good T) (b1 : 1 ≤ b) (b2 : b ≤ tsz T) (d1 : 1 ≤ d) (d2 : d ≤ tsz t) : Cut T (b * d) u := by
  refine ⟨hd.good, ?_⟩
  have gs := good_take gT b1 b2
  have e := glue_take (s := T.take (b - 1)) (t := t) d1 d2
  rw [take_tsz b1 b2, ← hb.eq] at e
  rw [e, glue_assoc gs (good_take hb.good d1 d2) hd.good, ← hd.eq]
  exact hb.eq
theorem cutsL_pair (T : Tb) : List.Pairwise (· < ·) (cutsL T) := by
  unfold cutsL
  refine List.Pairwise.filter _ ?_
  rw [List.pairwise_map]
  exact List.Pairwise.imp (fun h => by omega) List.pairwise_lt_range
theorem cutsL_cons {T : Tb} {b : Nat} (hb : b ∈ cutsL T) (h : ∀ c ∈ cutsL T, b ≤ c) : ∃ L, cutsL T = b :: L := by
  have hp := cutsL_pair T
  generalize cutsL T = l at hb h hp
  cases l with
  | nil => cases hb
  | cons x l =>
    have h1 := h x (List.mem_cons_self ..)
    rcases List.mem_cons.mp hb with rfl | hb
    · exact ⟨l, rfl⟩
    · have := (List.pairwise_cons.mp hp).1 b hb
      omega
/-- a prime ahead of a table -/
theorem Pr.ahead {p t : Tb} {L : List Tb} (gp : Good p) (hp : cutsL p = []) (p2 : 2 ≤ tsz p) (gt : Good t) (t2 : 2 ≤ tsz t) (h : Pr t L) : Pr (glue p t) (p :: L) := by
  have gT := glue_good gp gt
  have hc : Cut (glue p t) (tsz p) t := cut_glue gt
  have hz := glue_tsz p t
  have hlt : tsz p < tsz (glue p t) := by rw [hz]; have := Nat.mul_le_mul_left (tsz p) t2; omega
  have hmem : tsz p ∈ cutsL (glue p t) := cutsL_mem.mpr ⟨p2, hlt, t, hc⟩
  obtain ⟨L', hL⟩ := cutsL_cons hmem fun c hcm => by
    rcases Nat.lt_or_ge c (tsz p) with hlt' | h
    · exfalso
      obtain ⟨h1, h2, u, hu⟩ := cutsL_mem.mp hcm
      have := hu.upto (by omega) (hc.dvd hu gT (by omega) hlt' hlt) (by omega) (by omega)
      rw [glue_take1] at this
      have hm : c ∈ cutsL p := cutsL_mem.mpr ⟨h1, hlt', _, this⟩
      rw [hp] at hm
      cases hm
    · exact h
  have e := hc.abvT gT (by omega) (by omega) hz
  have hd : tsz (glue p t) / tsz p = tsz t := by rw [hz]; exact Nat.mul_div_cancel_left _ (by omega)
  have := Pr.more (M := L) hL (by rw [hd, ← e]; exact h)
  rwa [glue_take1] at this
/-- what is glued of primes has just these primes -/
theorem pr_glued : ∀ (ps : List Tb) (p : Tb), (∀ x ∈ p :: ps, Good x ∧ 2 ≤ tsz x ∧ cutsL x = []) → Pr (glued p ps) (p :: ps)
  | [], p, h => .one (h p (List.mem_cons_self ..)).2.2
  | q :: ps, p, h => by
    have hq : ∀ x ∈ q :: ps, Good x ∧ 2 ≤ tsz x ∧ cutsL x = [] := fun x hx => h x (List.mem_cons_of_mem _ hx)
    have hp := h p (List.mem_cons_self ..)
    have ih := pr_glued ps q hq
    have gq := hq q (List.mem_cons_self ..)
    have gs : ∀ x ∈ ps, Good x := fun x hx => (hq x (List.mem_cons_of_mem _ hx)).1
    have e : glued p (q :: ps) = glue p (glued q ps) := glued_glue hp.1 gq.1 gs
    rw [e]
    refine Pr.ahead hp.1 hp.2.2 hp.2.1 (glued_good gq.1 gs) ?_ ih
    rw [glued_tsz]
    exact Nat.le_trans gq.2.1 (Nat.le_mul_of_pos_right _ (prod_pos ps))
theorem glued_eq_iff {p q : Tb} {ps qs : List Tb} (h : ∀ x ∈ p :: ps, Good x ∧ 2 ≤ tsz x ∧ cutsL x = []) (h' : ∀ x ∈ q :: qs, Good x ∧ 2 ≤ tsz x ∧ cutsL x = []) : glued p ps = glued q qs ↔ p :: ps = q :: qs := by
  refine ⟨fun e => ?_, fun e => by cases e; rfl⟩
  have a := pr_glued ps p h
  rw [e] at a
  exact a.uniq (pr_glued qs q h')
end Ev
namespace Ev
open PySem L2
/-- a word: primes, not too great together -/
structure Wrd (L : List Tb) (N : Nat) : Prop where
  ne : L ≠ []
  pr : ∀ x ∈ L, Good x ∧ 2 ≤ tsz x ∧ cutsL x = []
  prod : (L.map tsz).prod ≤ N
def gl : List Tb → Tb
  | [] => []
  | x :: M => glued x M
theorem two_pow : ∀ l : List Nat, (∀ x ∈ l, 2 ≤ x) → 2 ^ l.length ≤ l.prod
  | [], _ => Nat.le_refl _
  | x :: l, h => by
    rw [List.length_cons, List.prod_cons, Nat.pow_succ, Nat.mul_comm]
    exact Nat.mul_le_mul (h x (List.mem_cons_self ..)) (two_pow l fun y hy => h y (List.mem_cons_of_mem _ hy))
theorem mem_prod : ∀ {l : List Nat} {x : Nat}, (∀ y ∈ l, 1 ≤ y) → x ∈ l → x ≤ l.prod
  | y :: l, x, h, hx => by
    have h1 := h y (List.mem_cons_self ..)
    have hp : ∀ l : List Nat, (∀ y ∈ l, 1 ≤ y) → 1 ≤ l.prod := fun l => by
      induction l with
      | nil => intro _; exact Nat.le_refl _
      | cons z l ih => intro h; rw [List.prod_cons]; exact Nat.mul_pos (h z (List.mem_cons_self ..)) (ih fun w hw => h w (List.mem_cons_of_mem _ hw))
    have h2 := hp l fun y hy => h y (List.mem_cons_of_mem _ hy)
    rw [List.prod_cons]
    rcases List.mem_cons.mp hx with rfl | hx
    · exact Nat.le_mul_of_pos_right _ h2
    · exact Nat.le_trans (mem_prod (fun y hy => h y (List.mem_cons_of_mem _ hy)) hx) (Nat.le_mul_of_pos_left _ h1)
namespace Wrd
variable {L M : List Tb} {N : Nat}
theorem good (h : Wrd L N) : ∀ x ∈ L, Good x := fun x hx => (h.pr x hx).1
theorem two (h : Wrd L N) : ∀ x ∈ L.map tsz, 2 ≤ x := fun x hx => by
  obtain ⟨y, hy, rfl⟩ := List.mem_map.mp hx
  exact (h.pr y hy).2.1
theorem le (h : Wrd L N) : ∀ x ∈ L, tsz x ≤ N := fun x hx => Nat.le_trans (mem_prod (fun y hy => Nat.le_trans (by decide) (h.two y hy)) (List.mem_map.mpr ⟨x, hx, rfl⟩)) h.prod
theorem len (h : Wrd L N) : 2 ^ L.length ≤ N := by
  have := two_pow _ h.two
  rw [List.length_map] at this
  exact Nat.le_trans this h.prod
theorem cons (h : Wrd L N) : ∃ x R, L = x :: R := by
  cases L with
  | nil => exact absurd rfl h.ne
  | cons x R => exact ⟨x, R, rfl⟩
theorem inj (h : Wrd L N) (h' : Wrd M N) : gl L = gl M ↔ L = M := by
  obtain ⟨x, R, rfl⟩ := h.cons
  obtain ⟨y, S, rfl⟩ := h'.cons
  exact glued_eq_iff h.pr h'.pr
end Wrd
end Ev
namespace Ev
open PySem L2
/-- a list so many times itself -/
def rept {α : Type} (k : Nat) (l : List α) : List α := (List.replicate k l).flatten
theorem len_rept {α : Type} (l : List α) : ∀ k, (rept k l).length = k * l.length
  | 0 => by simp [rept]
  | k + 1 => by
    have ih := len_rept l k
    unfold rept at ih ⊢
    rw [List.replicate_succ, List.flatten_cons, List.length_append, ih, Nat.succ_mul, Nat.add_comm]
end Ev
namespace Ev
open PySem L2
theorem Pr.two' {T : Tb} {L : List Tb} (h : Pr T L) : Good T → 2 ≤ tsz T → (∀ x ∈ L, 2 ≤ tsz x) := by
  induction h with
  | one h =>
    intro g h2 x hx
    rw [List.mem_singleton.mp hx]; exact h2
  | @more T b L M h k ih =>
    intro g h2
    obtain ⟨c, b1, c1, hz, hd, hc⟩ := cut_behind g (b := b) (by rw [h]; exact List.mem_cons_self ..)
    rw [hd] at ih
    have htz := abvT_tsz (T := T) (b := b) (show 1 ≤ c by omega)
    have i1 := ih hc.good (by omega)
    have hb2 : b ≤ tsz T := by rw [hz]; exact Nat.le_mul_of_pos_right _ (by omega)
    intro x hx
    rcases List.mem_cons.mp hx with rfl | hx
    · rw [take_tsz (by omega) hb2]; exact b1
    · exact i1 x hx
/-- the primes of a table are a word -/
theorem Pr.wrd {T : Tb} {L : List Tb} (h : Pr T L) (g : Good T) (h2 : 2 ≤ tsz T) : Wrd L (tsz T) ∧ gl L = T := by
  obtain ⟨x, M, rfl⟩ := h.ne
  obtain ⟨e1, e2⟩ := h.glued g x M rfl
  refine ⟨⟨by simp, fun y hy => ⟨(h.all_prime g y hy).1, h.two' g h2 y hy, (h.all_prime g y hy).2.1⟩, ?_⟩, e1⟩
  rw [List.map_cons, List.prod_cons, e2]
  exact Nat.le_refl _
theorem Wrd.mono {L : List Tb} {N M : Nat} (h : Wrd L N) (hNM : N ≤ M) : Wrd L M := ⟨h.ne, h.pr, Nat.le_trans h.prod hNM⟩
theorem gl_app {A B : List Tb} (hA : A ≠ []) (hB : B ≠ []) (gA : ∀ x ∈ A, Good x) (gB : ∀ x ∈ B, Good x) : gl (A ++ B) = glue (gl A) (gl B) := by
  obtain ⟨a, A, rfl⟩ : ∃ x R, A = x :: R := by
    cases A with
    | nil => exact absurd rfl hA
    | cons x R => exact ⟨x, R, rfl⟩
  obtain ⟨b, B, rfl⟩ : ∃ x R, B = x :: R := by
    cases B with
    | nil => exact absurd rfl hB
    | cons x R => exact ⟨x, R, rfl⟩
  exact glued_split (gA a (List.mem_cons_self ..)) (fun x hx => gA x (List.mem_cons_of_mem _ hx)) (gB b (List.mem_cons_self ..)) fun x hx => gB x (List.mem_cons_of_mem _ hx)
/-- a table glued to another one: its primes -/
theorem Pr.app {T1 T2 : Tb} {L1 L2 : List Tb} (h1 : Pr T1 L1) (h2 : Pr T2 L2) (g1 : Good T1) (g2 : Good T2) (z1 : 2 ≤ tsz T1) (z2 : 2 ≤ tsz T2) : Pr (glue T1 T2) (L1 ++ L2) := by
  obtain ⟨w1, e1⟩ := h1.wrd g1 z1
  obtain ⟨w2, e2⟩ := h2.wrd g2 z2
  have hw : ∀ x ∈ L1 ++ L2, Good x ∧ 2 ≤ tsz x ∧ cutsL x = [] := fun x hx => by
    rcases List.mem_append.mp hx with h | h
    · exact w1.pr x h
    · exact w2.pr x h
  have e := gl_app w1.ne w2.ne w1.good w2.good
  rw [e1, e2] at e
  have hp : Pr (gl (L1 ++ L2)) (L1 ++ L2) := by
    obtain ⟨x, R, rfl⟩ := w1.cons
    exact pr_glued (R ++ L2) x hw
  rwa [e] at hp
/-- the shortest list of which a list is so many times itself has k members -/
structure IsRoot (W : List Tb) (k : Nat) : Prop where
  pos : 1 ≤ k
  le : k ≤ W.length
  eq : rept (W.length / k) (W.take k) = W
  least : ∀ i, 1 ≤ i → i < k → rept (W.length / i) (W.take i) ≠ W
theorem IsRoot.uniq {W : List Tb} {k m : Nat} (h : IsRoot W k) (h' : IsRoot W m) : k = m := by
  rcases Nat.lt_trichotomy k m with q | q | q
  · exact absurd h.eq (h'.least k h.pos q)
  · exact q
  · exact absurd h'.eq (h.least m h'.pos q)
theorem IsRoot.dvd {W : List Tb} {k : Nat} (h : IsRoot W k) : W.length % k = 0 := by
  have := congrArg List.length h.eq
  rw [len_rept, List.length_take, Nat.min_eq_left h.le] at this
  have h2 := Nat.div_add_mod W.length k
  rw [Nat.mul_comm] at this
  omega
end Ev
namespace Ev
open PySem L2
theorem BL0 : type_of% (And.intro @pSeq.eq_1 (And.intro @pSeqK.eq_1 (And.intro @pSeqK.eq_2 (And.intro @pSet.eq_1 (And.intro @setW.eq_1 (And.intro @pRet.eq_1 (And.intro @pRetV.eq_1 (And.intro @pRetN.eq_1 (And.intro @pIf.eq_1 (And.intro @pIfE.eq_1 (And.intro @pTof.eq_1 (And.intro @pTru.eq_1 (And.intro @pNt.eq_1 (And.intro @pAnd.eq_1 (And.intro @pOrr.eq_1 (And.intro @pAnE.eq_1 (And.intro @pOrE.eq_1 (And.intro @pOp.eq_1 (And.intro @pOps.eq_1 (And.intro @pOps.eq_2 (And.intro @pOps.eq_3 (And.intro @pOps.eq_4 (And.intro @pOps.eq_5 (And.intro @pFin.eq_1 (And.intro @rdAs.eq_1 (And.intro @rdAs.eq_2 (And.intro @rdA.eq_1 (And.intro @rdA.eq_2 (And.intro @valA.eq_1 (And.intro @valA.eq_2 (And.intro @valA.eq_3 (And.intro @pC.eq_1 (And.intro @pVar.eq_1 (And.intro @pTup.eq_1 (And.intro @pLst.eq_1 (And.intro @itmS.eq_1 (And.intro @itmS.eq_2 (And.intro @itmS.eq_3 (And.intro @itmP.eq_1 (And.intro @itmP.eq_2 (And.intro @itmP.eq_3 (And.intro @poNone.eq_1 (And.intro @poSome.eq_1 (And.intro @pCut.eq_1 (And.intro @pExpr.eq_1 (And.intro @pSkip.eq_1 (And.intro @pPar.eq_1 (And.intro @pEvs.eq_1 (And.intro @pEvs.eq_2 (And.intro @setWs.eq_1 (And.intro @setWs.eq_2 (And.intro @setWs.eq_3 (And.intro @pAsg.eq_1 (And.intro @pAug.eq_1 (And.intro @C.bind.eq_1 (And.intro @C.bind.eq_2 (And.intro @C.bind.eq_3 (And.intro @C.bind.eq_4 (And.intro @PSlot.there.eq_1 (@PSlot.there.eq_2)))))))))))))))))))))))))))))))))))))))))))))))))))))))))))) := And.intro @pSeq.eq_1 (And.intro @pSeqK.eq_1 (And.intro @pSeqK.eq_2 (And.intro @pSet.eq_1 (And.intro @setW.eq_1 (And.intro @pRet.eq_1 (And.intro @pRetV.eq_1 (And.intro @pRetN.eq_1 (And.intro @pIf.eq_1 (And.intro @pIfE.eq_1 (And.intro @pTof.eq_1 (And.intro @pTru.eq_1 (And.intro @pNt.eq_1 (And.intro @pAnd.eq_1 (And.intro @pOrr.eq_1 (And.intro @pAnE.eq_1 (And.intro @pOrE.eq_1 (And.intro @pOp.eq_1 (And.intro @pOps.eq_1 (And.intro @pOps.eq_2 (And.intro @pOps.eq_3 (And.intro @pOps.eq_4 (And.intro @pOps.eq_5 (And.intro @pFin.eq_1 (And.intro @rdAs.eq_1 (And.intro @rdAs.eq_2 (And.intro @rdA.eq_1 (And.intro @rdA.eq_2 (And.intro @valA.eq_1 (And.intro @valA.eq_2 (And.intro @valA.eq_3 (And.intro @pC.eq_1 (And.intro @pVar.eq_1 (And.intro @pTup.eq_1 (And.intro @pLst.eq_1 (And.intro @itmS.eq_1 (And.intro @itmS.eq_2 (And.intro @itmS.eq_3 (And.intro @itmP.eq_1 (And.intro @itmP.eq_2 (And.intro @itmP.eq_3 (And.intro @poNone.eq_1 (And.intro @poSome.eq_1 (And.intro @pCut.eq_1 (And.intro @pExpr.eq_1 (And.intro @pSkip.eq_1 (And.intro @pPar.eq_1 (And.intro @pEvs.eq_1 (And.intro @pEvs.eq_2 (And.intro @setWs.eq_1 (And.intro @setWs.eq_2 (And.intro @setWs.eq_3 (And.intro @pAsg.eq_1 (And.intro @pAug.eq_1 (And.intro @C.bind.eq_1 (And.intro @C.bind.eq_2 (And.intro @C.bind.eq_3 (And.intro @C.bind.eq_4 (And.intro @PSlot.there.eq_1 (@PSlot.there.eq_2)))))))))))))))))))))))))))))))))))))))))))))))))))))))))))
theorem BL1 : type_of% (And.intro @PSlot.there.eq_3 (And.intro @finP.eq_1 (And.intro @finP.eq_2 (And.intro @finP.eq_3 (And.intro @finP.eq_4 (And.intro @finP.eq_5 (And.intro @finP.eq_6 (And.intro @finSl.eq_1 (And.intro @finSl.eq_2 (And.intro @finSl.eq_3 (And.intro @pItE.eq_1 (And.intro @pItB.eq_1 (And.intro @pItV.eq_1 (And.intro @pItK.eq_1 (And.intro @pItK.eq_2 (And.intro @itemsP.eq_1 (And.intro @itemsP.eq_2 (And.intro @itemsP.eq_3 (And.intro @itemsP.eq_4 (And.intro @pFor.eq_1 (And.intro @pCall.eq_1 (And.intro @distA.eq_1 (And.intro @distA.eq_2 (And.intro @distA.eq_3 (And.intro @argSl.eq_1 (And.intro @argSl.eq_2 (And.intro @argSl.eq_3 (And.intro @argOf.eq_1 (And.intro @argOf.eq_2 (And.intro @argOf.eq_3 (And.intro @updA.eq_1 (And.intro @updA.eq_2 (And.intro @upd1.eq_1 (And.intro @upd1.eq_2 (And.intro @C.mapE.eq_1 (And.intro @C.mapE.eq_2 (And.intro @C.mapE.eq_3 (And.intro @C.mapE.eq_4 (And.intro @pMut.eq_1 (And.intro @pMutB.eq_1 (And.intro @pMutF.eq_1 (And.intro @pMutF.eq_2 (And.intro @slLst.eq_1 (And.intro @slLst.eq_2 (And.intro @mopAppend.eq_1 (And.intro @mopAppend.eq_2 (And.intro @mopExtend.eq_1 (And.intro @mopExtend.eq_2 (And.intro @mopExtend.eq_3 (And.intro @truthP.eq_1 (And.intro @truthP.eq_2 (And.intro @truthP.eq_3 (And.intro @truthP.eq_4 (And.intro @truthP.eq_5 (And.intro @truthP.eq_6 (And.intro @truthP.eq_7 (And.intro @truthP.eq_8 (And.intro @opNt.eq_1 (And.intro @opNt.eq_2 (@opSub.eq_1)))))))))))))))))))))))))))))))))))))))))))))))))))))))))))) := And.intro @PSlot.there.eq_3 (And.intro @finP.eq_1 (And.intro @finP.eq_2 (And.intro @finP.eq_3 (And.intro @finP.eq_4 (And.intro @finP.eq_5 (And.intro @finP.eq_6 (And.intro @finSl.eq_1 (And.intro @finSl.eq_2 (And.intro @finSl.eq_3 (And.intro @pItE.eq_1 (And.intro @pItB.eq_1 (And.intro @pItV.eq_1 (And.intro @pItK.eq_1 (And.intro @pItK.eq_2 (And.intro @itemsP.eq_1 (And.intro @itemsP.eq_2 (And.intro @itemsP.eq_3 (And.intro @itemsP.eq_4 (And.intro @pFor.eq_1 (And.intro @pCall.eq_1 (And.intro @distA.eq_1 (And.intro @distA.eq_2 (And.intro @distA.eq_3 (And.intro @argSl.eq_1 (And.intro @argSl.eq_2 (And.intro @argSl.eq_3 (And.intro @argOf.eq_1 (And.intro @argOf.eq_2 (And.intro @argOf.eq_3 (And.intro @updA.eq_1 (And.intro @updA.eq_2 (And.intro @upd1.eq_1 (And.intro @upd1.eq_2 (And.intro @C.mapE.eq_1 (And.intro @C.mapE.eq_2 (And.intro @C.mapE.eq_3 (And.intro @C.mapE.eq_4 (And.intro @pMut.eq_1 (And.intro @pMutB.eq_1 (And.intro @pMutF.eq_1 (And.intro @pMutF.eq_2 (And.intro @slLst.eq_1 (And.intro @slLst.eq_2 (And.intro @mopAppend.eq_1 (And.intro @mopAppend.eq_2 (And.intro @mopExtend.eq_1 (And.intro @mopExtend.eq_2 (And.intro @mopExtend.eq_3 (And.intro @truthP.eq_1 (And.intro @truthP.eq_2 (And.intro @truthP.eq_3 (And.intro @truthP.eq_4 (And.intro @truthP.eq_5 (And.intro @truthP.eq_6 (And.intro @truthP.eq_7 (And.intro @truthP.eq_8 (And.intro @opNt.eq_1 (And.intro @opNt.eq_2 (@opSub.eq_1)))))))))))))))))))))))))))))))))))))))))))))))))))))))))))
theorem BL2 : type_of% (And.intro @opSub.eq_2 (And.intro @opCmp.eq_1 (And.intro @opCmp.eq_2 (And.intro @opLt.eq_1 (And.intro @opLe.eq_1 (And.intro @opGt.eq_1 (And.intro @opGe.eq_1 (And.intro @opEq.eq_1 (And.intro @opEq.eq_2 (And.intro @opIs.eq_1 (And.intro @opIs.eq_2 (And.intro @isB.eq_1 (And.intro @isB.eq_2 (And.intro @isB.eq_3 (And.intro @isB.eq_4 (And.intro @isB.eq_5 (And.intro @isB.eq_6 (And.intro @isB.eq_7 (And.intro @isB.eq_8 (And.intro @isB.eq_9 (And.intro @isB.eq_10 (And.intro @isB.eq_11 (And.intro @opInt.eq_1 (And.intro @opInt.eq_2 (And.intro @opInt.eq_3 (And.intro @opAbs.eq_1 (And.intro @opAbs.eq_2 (And.intro @opAddI.eq_1 (And.intro @opAddI.eq_2 (And.intro @sf_none (And.intro @sf_un (And.intro @sf_sh (And.intro @sf_own (And.intro @sf_of (And.intro @valA_v (And.intro @rdAs_v (And.intro @pasg_nm (And.intro @pasg_tpt (And.intro @pasg_tpl (And.intro @pasgs_nil (And.intro @pasgs_cons (And.intro @fS1 (And.intro @fS2 (And.intro @fS3 (And.intro @fS4 (And.intro @len_tup (And.intro @len_lst (And.intro @len_dic (And.intro @len_dit (And.intro @len_tb (And.intro @opAdd_ii (And.intro @opAdd_ss (And.intro @opAdd_tt (And.intro @opAdd_ll (And.intro @opIx_tup (And.intro @opIx_lst (And.intro @opTuple_tup (And.intro @opTuple_lst (And.intro @opTuple_tb (@opList_tup)))))))))))))))))))))))))))))))))))))))))))))))))))))))))))) := And.intro @opSub.eq_2 (And.intro @opCmp.eq_1 (And.intro @opCmp.eq_2 (And.intro @opLt.eq_1 (And.intro @opLe.eq_1 (And.intro @opGt.eq_1 (And.intro @opGe.eq_1 (And.intro @opEq.eq_1 (And.intro @opEq.eq_2 (And.intro @opIs.eq_1 (And.intro @opIs.eq_2 (And.intro @isB.eq_1 (And.intro @isB.eq_2 (And.intro @isB.eq_3 (And.intro @isB.eq_4 (And.intro @isB.eq_5 (And.intro @isB.eq_6 (And.intro @isB.eq_7 (And.intro @isB.eq_8 (And.intro @isB.eq_9 (And.intro @isB.eq_10 (And.intro @isB.eq_11 (And.intro @opInt.eq_1 (And.intro @opInt.eq_2 (And.intro @opInt.eq_3 (And.intro @opAbs.eq_1 (And.intro @opAbs.eq_2 (And.intro @opAddI.eq_1 (And.intro @opAddI.eq_2 (And.intro @sf_none (And.intro @sf_un (And.intro @sf_sh (And.intro @sf_own (And.intro @sf_of (And.intro @valA_v (And.intro @rdAs_v (And.intro @pasg_nm (And.intro @pasg_tpt (And.intro @pasg_tpl (And.intro @pasgs_nil (And.intro @pasgs_cons (And.intro @fS1 (And.intro @fS2 (And.intro @fS3 (And.intro @fS4 (And.intro @len_tup (And.intro @len_lst (And.intro @len_dic (And.intro @len_dit (And.intro @len_tb (And.intro @opAdd_ii (And.intro @opAdd_ss (And.intro @opAdd_tt (And.intro @opAdd_ll (And.intro @opIx_tup (And.intro @opIx_lst (And.intro @opTuple_tup (And.intro @opTuple_lst (And.intro @opTuple_tb (@opList_tup)))))))))))))))))))))))))))))))))))))))))))))))))))))))))))
theorem BL3 : type_of% (And.intro @opList_lst (And.intro @cutV_tup (And.intro @cutV_lst (And.intro @cutV_tb_hi (And.intro @opList_tb (And.intro @enumP_tup (And.intro @enumP_lst (And.intro @enumP_tb (And.intro @c1 (And.intro @c2 (And.intro @c3 (And.intro @c4 (And.intro @c5 (And.intro @c6 (And.intro @c7 (And.intro @c8 (And.intro @c9 (And.intro @c10 (And.intro @c11 (And.intro @c12 (And.intro @c13 (And.intro @c14 (And.intro @c15 (And.intro @c16 (And.intro @c17 (And.intro @c18 (And.intro @c19 (And.intro @c20 (And.intro @c1l (And.intro @c2l (And.intro @c3l (And.intro @c4l (And.intro @c5l (And.intro @c6l (And.intro @c7l (And.intro @c8l (And.intro @c9l (And.intro @c10l (And.intro @c11l (And.intro @c12l (And.intro @List.getElem?_cons_zero.{0} (And.intro @List.getElem?_cons_succ.{0} (And.intro @List.getElem?_nil.{0} (And.intro @List.set_cons_zero.{0} (And.intro @List.set_cons_succ.{0} (And.intro @List.length_cons.{0} (And.intro @List.length_nil.{0} (And.intro @List.all_nil.{0} (And.intro @List.all_cons.{0} (And.intro @Option.map.eq_1.{0,0} (@Option.map.eq_2.{0,0}))))))))))))))))))))))))))))))))))))))))))))))))))) := And.intro @opList_lst (And.intro @cutV_tup (And.intro @cutV_lst (And.intro @cutV_tb_hi (And.intro @opList_tb (And.intro @enumP_tup (And.intro @enumP_lst (And.intro @enumP_tb (And.intro @c1 (And.intro @c2 (And.intro @c3 (And.intro @c4 (And.intro @c5 (And.intro @c6 (And.intro @c7 (And.intro @c8 (And.intro @c9 (And.intro @c10 (And.intro @c11 (And.intro @c12 (And.intro @c13 (And.intro @c14 (And.intro @c15 (And.intro @c16 (And.intro @c17 (And.intro @c18 (And.intro @c19 (And.intro @c20 (And.intro @c1l (And.intro @c2l (And.intro @c3l (And.intro @c4l (And.intro @c5l (And.intro @c6l (And.intro @c7l (And.intro @c8l (And.intro @c9l (And.intro @c10l (And.intro @c11l (And.intro @c12l (And.intro @List.getElem?_cons_zero.{0} (And.intro @List.getElem?_cons_succ.{0} (And.intro @List.getElem?_nil.{0} (And.intro @List.set_cons_zero.{0} (And.intro @List.set_cons_succ.{0} (And.intro @List.length_cons.{0} (And.intro @List.length_nil.{0} (And.intro @List.all_nil.{0} (And.intro @List.all_cons.{0} (And.intro @Option.map.eq_1.{0,0} (@Option.map.eq_2.{0,0}))))))))))))))))))))))))))))))))))))))))))))))))))
end Ev
set_option maxHeartbeats 4000000
namespace Ev
open PySem L2
inductive PEnd where
  | side (left : Bool)
  | rnd (ts : List Tb)
def tbsV (ts : List Tb) : PV := .tup (ts.map tbV)
def PEnd.pv : PEnd → PV
  | .side l => .str (sideT l)
  | .rnd ts => tbsV ts
end Ev
set_option maxHeartbeats 4000000
namespace Ev
open PySem L2
def pV : PV := .tup [.tup [], .tup []]
def lV : PV := .tup [pV, .tup [pV, .tup []]]
def rV : PV := .tup [pV, .tup [.tup [], pV]]
def thrV : PV := .ins 0 ["own_tables", "own_end"] [.tup [lV, rV], .str "right"]
def hvV : PV := .ins 0 ["own_tables", "own_end"] [.tup [], .tup [.tup [pV]]]
def leV : PV := .ins 0 ["own_tables", "own_end"] [.tup [.tup [pV]], .str "left"]
def prI (i j : Int) : PV := .tup [.int i, .int j]
@[irreducible] def p45_s0 (U : PTab) : PStm := pSet 0 (pTup [.ex (pTup []), .ex (pTup [])])
@[irreducible] def p45_s1 (U : PTab) : PStm := pAsg (.tp [.nm 1, .nm 2]) (pTup [.ex (pCall U 44 [.ex (pLst [.ex (pTup [.ex (pVar 0)])]), .ex (pC (.str "left"))] [false, false]), .ex (pOp opPow [.ex (pC (.int 10)), .ex (pC (.int 20))])])
@[irreducible] def p45_s2 (U : PTab) : PStm := pSet 3 (pLst [.ex (pTup [.ex (pC (.int 0)), .ex (pC (.int 7))]), .ex (pTup [.ex (pC (.int 0)), .ex (pC (.int 6))]), .ex (pTup [.ex (pC (.int 0)), .ex (pC (.int 4))]), .ex (pTup [.ex (pC (.int 0)), .ex (pC (.int 2))]), .ex (pTup [.ex (pC (.int 0)), .ex (pC (.int 1))]), .ex (pTup [.ex (pC (.int 1)), .ex (pC (.int 2))]), .ex (pTup [.ex (pC (.int 2)), .ex (pC (.int 4))]), .ex (pTup [.ex (pC (.int 2)), .ex (pC (.int 3))]), .ex (pTup [.ex (pC (.int 3)), .ex (pC (.int 4))]), .ex (pTup [.ex (pC (.int 4)), .ex (pC (.int 6))]), .ex (pTup [.ex (pC (.int 4)), .ex (pC (.int 5))]), .ex (pTup [.ex (pC (.int 5)), .ex (pC (.int 6))]), .ex (pTup [.ex (pC (.int 6)), .ex (pC (.int 7))])])
@[irreducible] def p45_s3 (U : PTab) : PStm := pIf (pOrr (pTof (pOp (opEq true) [.ex (pCall U 11 [.ex (pVar 1), .ex (pC (.int 7))] [false, false]), .ex (pTup [.ex (pTup [.ex (pTup [.ex (pVar 0), .ex (pVar 0)]), .ex (pVar 0)]), .ex (pTup [])])])) (pOrr (pTof (pOp (opEq true) [.ex (pCall U 18 [.ex (pVar 1), .ex (pC (.int 7))] [false, false]), .bor 3])) (pTof (pOp (opEq true) [.ex (pCall U 14 [.ex (pVar 1), .ex (pC (.int 7)), .ex (pC (.int 5))] [false, false, false]), .ex (pLst [.ex (pTup [.ex (pC (.int 0)), .ex (pC (.int 2))]), .ex (pTup [.ex (pC (.int 2)), .ex (pC (.int 4))]), .ex (pTup [.ex (pC (.int 4)), .ex (pC (.int 6))]), .ex (pTup [.ex (pC (.int 6)), .ex (pC (.int 7))])])])))) (pRet (pC (.bl false))) (pSkip)
@[irreducible] def p45_s4 (U : PTab) : PStm := pIf (pTof (pOp (opEq true) [.ex (pLst [.ex (pCall U 36 [.ex (pVar 1), .ex (pC (.int 7)), .ex (pC (.int 3))] [false, false, false]), .ex (pCall U 32 [.ex (pVar 1), .ex (pC (.int 7)), .ex (pC (.int 3)), .ex (pC (.int 4))] [false, false, false, false]), .ex (pCall U 34 [.ex (pVar 1), .ex (pC (.int 7)), .ex (pC (.int 3)), .ex (pC (.int 4))] [false, false, false, false]), .ex (pCall U 31 [.ex (pVar 1), .ex (pC (.int 7)), .ex (pTup [.ex (pC (.int 0)), .ex (pC (.int 1))])] [false, false, false])]), .ex (pLst [.ex (pC (.int 4)), .ex (pTup [.ex (pC (.int 0)), .ex (pC (.int 0)), .ex (pC (.int 1)), .ex (pC (.int 1))]), .ex (pTup [.ex (pC (.int 0)), .ex (pC (.int 6))]), .ex (pTup [.ex (pC (.int 4)), .ex (pC (.int 6))])])])) (pRet (pC (.bl false))) (pSkip)
@[irreducible] def p45_s5 (U : PTab) : PStm := pIf (pOrr (pTof (pOp (opEq true) [.ex (pCall U 36 [.ex (pVar 1), .ex (pVar 2), .ex (pC (.int 3))] [false, false, false]), .ex (pOp opMul [.ex (pC (.int 5)), .ex (pOp opPow [.ex (pC (.int 10)), .ex (pC (.int 19))])])])) (pTof (pOp (opIs true) [.ex (pCall U 30 [.ex (pVar 1), .ex (pVar 2), .ex (pC (.int 0)), .ex (pOp opPow [.ex (pC (.int 10)), .ex (pC (.int 19))])] [false, false, false, false]), .ex (pC (.bl true))]))) (pRet (pC (.bl false))) (pSkip)
@[irreducible] def p45_s6 (U : PTab) : PStm := pRet (pOp (opEq false) [.ex (pLc (pItE (pTup [.ex (pC (.int 1)), .ex (pC (.int 2)), .ex (pC (.int 3))])) (.nm 4) [4] (pYes) (p45_e0 U)), .ex (pLst [.ex (pC (.bl true)), .ex (pC (.bl true)), .ex (pC (.bl false))])])
theorem p45_eq (U : PTab) : p45 U = pSeq (p45_s0 U) (pSeq (p45_s1 U) (pSeq (p45_s2 U) (pSeq (p45_s3 U) (pSeq (p45_s4 U) (pSeq (p45_s5 U) (p45_s6 U)))))) := by
  unfold p45 p45_s0 p45_s1 p45_s2 p45_s3 p45_s4 p45_s5 p45_s6
  rfl
@[irreducible] def p46_s0 (U : PTab) : PStm := pSet 1 (pTup [.ex (pTup []), .ex (pTup [])])
@[irreducible] def p46_s1 (U : PTab) : PStm := pAsg (.tp [.nm 2, .nm 3]) (pTup [.ex (pTup [.ex (pVar 1), .ex (pTup [.ex (pVar 1), .ex (pTup [])])]), .ex (pTup [.ex (pVar 1), .ex (pTup [.ex (pTup []), .ex (pVar 1)])])])
@[irreducible] def p46_s2 (U : PTab) : PStm := pAsg (.tp [.nm 4, .nm 5]) (pTup [.ex (pCall U 44 [.ex (pLst [.ex (pVar 2), .ex (pVar 3)]), .ex (pC (.str "right"))] [false, false]), .ex (pCall U 44 [.ex (pTup []), .ex (pTup [.ex (pTup [.ex (pVar 1)])])] [false, false])])
@[irreducible] def p46_s3 (U : PTab) : PStm := pPar [6, 7] [pTup [.ex (pVar 1), .ex (pTup [])], pTup [.ex (pTup []), .ex (pVar 1)]]
@[irreducible] def p46_s4 (U : PTab) : PStm := pIf (pTof (pOp (opEq true) [.ex (pLc (pItE (pTup [.ex (pC (.int 1)), .ex (pC (.int 2)), .ex (pC (.int 3)), .ex (pC (.int 4)), .ex (pC (.int 5)), .ex (pC (.int 7))])) (.nm 9) [9] (pYes) (p46_e0 U)), .ex (pLst [.ex (pTup []), .ex (pVar 1), .ex (pVar 6), .ex (pTup [.ex (pVar 6), .ex (pTup [])]), .ex (pTup [.ex (pVar 6), .ex (pVar 1)]), .ex (pTup [.ex (pVar 6), .ex (pTup [.ex (pVar 6), .ex (pTup [])])])])])) (pRet (pC (.bl false))) (pSkip)
@[irreducible] def p46_s5 (U : PTab) : PStm := pIf (pOrr (pTof (pOp (opEq true) [.ex (pCall U 11 [.ex (pVar 4), .ex (pC (.int 13))] [false, false]), .ex (pTup [.ex (pTup [.ex (pVar 6), .ex (pTup [.ex (pVar 6), .ex (pVar 6)])]), .ex (pTup [.ex (pVar 6), .ex (pTup [])])])])) (pOrr (pTof (pOp (opEq true) [.ex (pCall U 36 [.ex (pVar 4), .ex (pC (.int 13)), .ex (pC (.int 12))] [false, false, false]), .ex (pC (.int 2))])) (pTof (pOp (opEq true) [.ex (pCall U 36 [.ex (pVar 4), .ex (pC (.int 13)), .ex (pC (.int 0))] [false, false, false]), .ex (pC (.int 4))])))) (pRet (pC (.bl false))) (pSkip)
@[irreducible] def p46_s6 (U : PTab) : PStm := pIf (pTof (pOp (opEq true) [.ex (pLc (pItE (pTup [.ex (pC (.str "left")), .ex (pC (.str "right"))])) (.nm 10) [10] (pYes) (p46_e1 U)), .ex (pLst [.ex (pTup [.ex (pTup [.ex (pVar 7), .ex (pVar 7)]), .ex (pVar 1)]), .ex (pTup [.ex (pVar 7), .ex (pTup [.ex (pVar 7), .ex (pVar 1)])])])])) (pRet (pC (.bl false))) (pSkip)
@[irreducible] def p46_s7 (U : PTab) : PStm := pIf (pTof (pOp (opEq true) [.ex (pCall U 11 [.ex (pVar 5), .ex (pC (.int 7))] [false, false]), .ex (pTup [.ex (pTup [.ex (pVar 1), .ex (pVar 1)]), .ex (pTup [.ex (pVar 1), .ex (pTup [])])])])) (pRet (pC (.bl false))) (pSkip)
@[irreducible] def p46_s8 (U : PTab) : PStm := pSet 8 (pOp opPow [.ex (pC (.int 2)), .ex (pC (.int 60))])
@[irreducible] def p46_s9 (U : PTab) : PStm := pIf (pTof (pOp (opEq true) [.ex (pLc (pItE (pTup [.ex (pC (.int 1)), .ex (pC (.int 32)), .ex (pOp opPow [.ex (pC (.int 2)), .ex (pC (.int 59))])])) (.nm 11) [11] (pYes) (p46_e2 U)), .ex (pLst [.ex (pTup [.ex (pC (.int 0)), .ex (pC (.int 2))]), .ex (pTup [.ex (pC (.int 0)), .ex (pC (.int 64))]), .ex (pTup [.ex (pC (.int 0)), .ex (pVar 8)])])])) (pRet (pC (.bl false))) (pSkip)
@[irreducible] def p46_s10 (U : PTab) : PStm := pIf (pTof (pOp (opEq true) [.ex (pLc (pItE (pTup [.ex (pC (.int 0)), .ex (pVar 8)])) (.nm 11) [11] (pYes) (p46_e3 U)), .ex (pLst [.ex (pC (.int 61)), .ex (pC (.int 1))])])) (pRet (pC (.bl false))) (pSkip)
@[irreducible] def p46_s11 (U : PTab) : PStm := pIf (pTof (pOp (opEq true) [.ex (pCall U 32 [.ex (pVar 5), .ex (pOp opAdd [.bor 8, .ex (pC (.int 1))]), .ex (pVar 8), .ex (pOp opAdd [.bor 8, .ex (pC (.int 1))])] [false, false, false, false]), .ex (pTup [.ex (pC (.int 1))])])) (pRet (pC (.bl false))) (pSkip)
@[irreducible] def p46_s12 (U : PTab) : PStm := pIf (pTof (pOp (opEq true) [.ex (pLc (pItE (pLst [.ex (pTup [.ex (pC (.int 0)), .ex (pC (.int 3))]), .ex (pTup [.ex (pC (.int 1)), .ex (pC (.int 4))]), .ex (pTup [.ex (pC (.int 0)), .ex (pC (.int 4))])])) (.tp [.nm 11, .nm 12]) [11, 12] (pYes) (p46_e4 U)), .ex (pLst [.ex (pTup [.ex (pC (.int 2)), .ex (pC (.int 4))]), .ex (pTup [.ex (pC (.int 0)), .ex (pC (.int 2))]), .ex (pC .non)])])) (pRet (pC (.bl false))) (pSkip)
@[irreducible] def p46_s13 (U : PTab) : PStm := pIf (pTof (pOp (opIn true) [.ex (pCall U 35 [.ex (pVar 5), .ex (pC (.int 4)), .ex (pC (.int 1)), .ex (pC (.int 3))] [false, false, false, false]), .ex (pLst [.ex (pTup [.ex (pC (.int 0)), .ex (pC (.int 2))]), .ex (pTup [.ex (pC (.int 2)), .ex (pC (.int 4))])])])) (pRet (pC (.bl false))) (pSkip)
@[irreducible] def p46_s14 (U : PTab) : PStm := pRet (pCall U 45 [] [])
theorem p46_eq (U : PTab) : p46 U = pSeq (p46_s0 U) (pSeq (p46_s1 U) (pSeq (p46_s2 U) (pSeq (p46_s3 U) (pSeq (p46_s4 U) (pSeq (p46_s5 U) (pSeq (p46_s6 U) (pSeq (p46_s7 U) (pSeq (p46_s8 U) (pSeq (p46_s9 U) (pSeq (p46_s10 U) (pSeq (p46_s11 U) (pSeq (p46_s12 U) (pSeq (p46_s13 U) (p46_s14 U)))))))))))))) := by
  unfold p46 p46_s0 p46_s1 p46_s2 p46_s3 p46_s4 p46_s5 p46_s6 p46_s7 p46_s8 p46_s9 p46_s10 p46_s11 p46_s12 p46_s13 p46_s14
  rfl
@[irreducible] def p18_s0 (U : PTab) : PStm := pPar [2, 3, 4] [pCall U 14 [.ex (pVar 0), .ex (pVar 1), .ex (pC (.int 0))] [false, false, false], pC (.int 0), pLc (pItB rg1P [.bor 1]) (.nm 5) [5] (pYes) (p18_e1 U)]
@[irreducible] def p18_s1 (U : PTab) : PStm := pWhile (p18_q0 U) (p18_b0 U) WFU
@[irreducible] def p18_s2 (U : PTab) : PStm := pIf (pTof (pOp opGt [.ex (pOp opLen [.bor 2]), .ex (pC (.int 1))])) (pExpr (pMutB 4 mopExtend [.ex (pLc (pItE (pCall U 16 [.ex (pOp opLen [.bor 2]), .ex (pMeth U 42 0 "end" (pVar 0) [] [])] [false, false])) (.tp [.nm 6, .nm 7]) [6, 7] (pYes) (p18_e3 U))])) (pSkip)
@[irreducible] def p18_s3 (U : PTab) : PStm := pRet (pOp opSortK [.bor 4])
theorem p18_eq (U : PTab) : p18 U = pSeq (p18_s0 U) (pSeq (p18_s1 U) (pSeq (p18_s2 U) (p18_s3 U))) := by
  unfold p18 p18_s0 p18_s1 p18_s2 p18_s3
  rfl
theorem s18_0 : p18_s0 (ptab PP 197) [.sh leV, .sh (.int 7), .un, .un, .un, .un, .un, .un] = .ret (.nx [.sh leV, .sh (.int 7), .ow .own (.lst [prI 0 1, prI 1 2, prI 2 3, prI 3 4, prI 4 5, prI 5 6, prI 6 7]), .sh (.int 0), .ow .own (.lst [prI 0 1, prI 1 2, prI 2 3, prI 3 4, prI 4 5, prI 5 6, prI 6 7]), .un, .un, .un]) := by kernel_rfl
theorem s18_1 : p18_s1 (ptab PP 197) [.sh leV, .sh (.int 7), .ow .own (.lst [prI 0 1, prI 1 2, prI 2 3, prI 3 4, prI 4 5, prI 5 6, prI 6 7]), .sh (.int 0), .ow .own (.lst [prI 0 1, prI 1 2, prI 2 3, prI 3 4, prI 4 5, prI 5 6, prI 6 7]), .un, .un, .un] = .ret (.nx [.sh leV, .sh (.int 7), .ow .own (.lst [prI 0 2, prI 2 4, prI 4 6, prI 6 7]), .sh (.int 1), .ow .own (.lst [prI 0 1, prI 1 2, prI 2 3, prI 3 4, prI 4 5, prI 5 6, prI 6 7, prI 0 2, prI 2 4, prI 4 6]), .un, .un, .un]) := by kernel_rfl
theorem s18_2 : p18_s2 (ptab PP 197) [.sh leV, .sh (.int 7), .ow .own (.lst [prI 0 2, prI 2 4, prI 4 6, prI 6 7]), .sh (.int 1), .ow .own (.lst [prI 0 1, prI 1 2, prI 2 3, prI 3 4, prI 4 5, prI 5 6, prI 6 7, prI 0 2, prI 2 4, prI 4 6]), .un, .un, .un] = .ret (.nx [.sh leV, .sh (.int 7), .ow .own (.lst [prI 0 2, prI 2 4, prI 4 6, prI 6 7]), .sh (.int 1), .ow .own (.lst [prI 0 1, prI 1 2, prI 2 3, prI 3 4, prI 4 5, prI 5 6, prI 6 7, prI 0 2, prI 2 4, prI 4 6, prI 0 4, prI 0 6, prI 0 7]), .un, .un, .un]) := by kernel_rfl
theorem seqR {p q : PStm} {e e' : PEnv} (h : p e = .ret (.nx e')) : pSeq p q e = q e' := by
  unfold pSeq
  rw [h]
  rfl
theorem srt31 : sortK ([(0, 1), (1, 2), (2, 3), (3, 4), (4, 5), (5, 6), (6, 7), (0, 2), (2, 4), (4, 6), (0, 4), (0, 6), (0, 7)] : List (Int × Int)) = ([(0, 7), (0, 6), (0, 4), (0, 2), (0, 1), (1, 2), (2, 4), (2, 3), (3, 4), (4, 6), (4, 5), (5, 6), (6, 7)] : List (Int × Int)) := by
  have hp : (([(0, 1), (1, 2), (2, 3), (3, 4), (4, 5), (5, 6), (6, 7), (0, 2), (2, 4), (4, 6), (0, 4), (0, 6), (0, 7)] : List (Int × Int))).Perm ([(0, 7), (0, 6), (0, 4), (0, 2), (0, 1), (1, 2), (2, 4), (2, 3), (3, 4), (4, 6), (4, 5), (5, 6), (6, 7)] : List (Int × Int)) := by decide +kernel
  have hs : (([(0, 7), (0, 6), (0, 4), (0, 2), (0, 1), (1, 2), (2, 4), (2, 3), (3, 4), (4, 6), (4, 5), (5, 6), (6, 7)] : List (Int × Int))).Pairwise (fun a b => skLe id a b = true) := by decide +kernel
  exact List.Perm.eq_of_pairwise (fun a b _ _ h1 h2 => skLe_anti h1 h2) (sortK_sorted _) hs ((sortK_perm _).trans hp)
theorem r18 : ptab PP 198 18 [.sh leV, .sh (.int 7)] = .ret (true, (.lst [prI 0 7, prI 0 6, prI 0 4, prI 0 2, prI 0 1, prI 1 2, prI 2 4, prI 2 3, prI 3 4, prI 4 6, prI 4 5, prI 5 6, prI 6 7]), [.un, .un]) := by
  have h := opSortK_of (ps := ([(0, 1), (1, 2), (2, 3), (3, 4), (4, 5), (5, 6), (6, 7), (0, 2), (2, 4), (4, 6), (0, 4), (0, 6), (0, 7)] : List (Int × Int))) (by decide)
  rw [srt31] at h
  have h2 : opSortK [(.lst [prI 0 1, prI 1 2, prI 2 3, prI 3 4, prI 4 5, prI 5 6, prI 6 7, prI 0 2, prI 2 4, prI 4 6, prI 0 4, prI 0 6, prI 0 7])] = some (true, (.lst [prI 0 7, prI 0 6, prI 0 4, prI 0 2, prI 0 1, prI 1 2, prI 2 4, prI 2 3, prI 3 4, prI 4 6, prI 4 5, prI 5 6, prI 6 7])) := h
  rw [show (198 : Nat) = 197 + 1 from rfl, pt18, p18_eq, seqR s18_0, seqR s18_1, seqR s18_2]
  generalize ptab PP 197 = T
  generalize PV.lst [prI 0 1, prI 1 2, prI 2 3, prI 3 4, prI 4 5, prI 5 6, prI 6 7, prI 0 2, prI 2 4, prI 4 6, prI 0 4, prI 0 6, prI 0 7] = L at h2 ⊢
  unfold p18_s3
  simp only [BL0, BL1, BL2, BL3, if_true, if_false, Bool.false_eq_true, Bool.and_true, Bool.true_and, Bool.and_self, decide_true, decide_false, Bool.not_true, Bool.not_false, ne_eq, not_false_eq_true, Nat.reduceEqDiff, Nat.zero_le, h2]
theorem r11 : ptab PP 198 11 [.sh leV, .sh (.int 7)] = .ret (false, .tup [.tup [.tup [pV, pV], pV], .tup []], [.un, .un]) := by kernel_rfl
theorem r14 : ptab PP 198 14 [.sh leV, .sh (.int 7), .sh (.int 5)] = .ret (true, (.lst [prI 0 2, prI 2 4, prI 4 6, prI 6 7]), [.un, .un, .un]) := by kernel_rfl
theorem q11 : eqB (.tup [.tup [.tup [pV, pV], pV], .tup []]) (.tup [.tup [.tup [pV, pV], pV], .tup []]) = some true := by kernel_rfl
theorem q18 : eqB (.lst [prI 0 7, prI 0 6, prI 0 4, prI 0 2, prI 0 1, prI 1 2, prI 2 4, prI 2 3, prI 3 4, prI 4 6, prI 4 5, prI 5 6, prI 6 7]) (.lst [prI 0 7, prI 0 6, prI 0 4, prI 0 2, prI 0 1, prI 1 2, prI 2 4, prI 2 3, prI 3 4, prI 4 6, prI 4 5, prI 5 6, prI 6 7]) = some true := by kernel_rfl
theorem q14 : eqB (.lst [prI 0 2, prI 2 4, prI 4 6, prI 6 7]) (.lst [prI 0 2, prI 2 4, prI 4 6, prI 6 7]) = some true := by kernel_rfl
theorem s45_3 : p45_s3 (ptab PP 198) [.sh pV, .sh leV, .sh (.int 100000000000000000000), .ow .own (.lst [prI 0 7, prI 0 6, prI 0 4, prI 0 2, prI 0 1, prI 1 2, prI 2 4, prI 2 3, prI 3 4, prI 4 6, prI 4 5, prI 5 6, prI 6 7]), .un] = .ret (.nx [.sh pV, .sh leV, .sh (.int 100000000000000000000), .ow .own (.lst [prI 0 7, prI 0 6, prI 0 4, prI 0 2, prI 0 1, prI 1 2, prI 2 4, prI 2 3, prI 3 4, prI 4 6, prI 4 5, prI 5 6, prI 6 7]), .un]) := by
  have h1 := r11
  have h2 := r18
  have h3 := r14
  have g1 := q11
  have g2 := q18
  have g3 := q14
  unfold prI at g3 h3
  generalize ptab PP 198 = T at h1 h2 h3 ⊢
  generalize PV.lst [prI 0 7, prI 0 6, prI 0 4, prI 0 2, prI 0 1, prI 1 2, prI 2 4, prI 2 3, prI 3 4, prI 4 6, prI 4 5, prI 5 6, prI 6 7] = L at h2 g2 ⊢
  unfold p45_s3
  simp only [BL0, BL1, BL2, BL3, if_true, if_false, Bool.false_eq_true, Bool.and_true, Bool.true_and, Bool.and_self, decide_true, decide_false, Bool.not_true, Bool.not_false, ne_eq, not_false_eq_true, Nat.reduceEqDiff, Nat.zero_le, h1, h2, h3, g1, g2, g3]
theorem s45_0 : p45_s0 (ptab PP 198) [.un, .un, .un, .un, .un] = .ret (.nx [.sh pV, .un, .un, .un, .un]) := by kernel_rfl
theorem s45_1 : p45_s1 (ptab PP 198) [.sh pV, .un, .un, .un, .un] = .ret (.nx [.sh pV, .sh leV, .sh (.int 100000000000000000000), .un, .un]) := by kernel_rfl
theorem s45_2 : p45_s2 (ptab PP 198) [.sh pV, .sh leV, .sh (.int 100000000000000000000), .un, .un] = .ret (.nx [.sh pV, .sh leV, .sh (.int 100000000000000000000), .ow .own (.lst [prI 0 7, prI 0 6, prI 0 4, prI 0 2, prI 0 1, prI 1 2, prI 2 4, prI 2 3, prI 3 4, prI 4 6, prI 4 5, prI 5 6, prI 6 7]), .un]) := by kernel_rfl
theorem s45_4 : p45_s4 (ptab PP 198) [.sh pV, .sh leV, .sh (.int 100000000000000000000), .ow .own (.lst [prI 0 7, prI 0 6, prI 0 4, prI 0 2, prI 0 1, prI 1 2, prI 2 4, prI 2 3, prI 3 4, prI 4 6, prI 4 5, prI 5 6, prI 6 7]), .un] = .ret (.nx [.sh pV, .sh leV, .sh (.int 100000000000000000000), .ow .own (.lst [prI 0 7, prI 0 6, prI 0 4, prI 0 2, prI 0 1, prI 1 2, prI 2 4, prI 2 3, prI 3 4, prI 4 6, prI 4 5, prI 5 6, prI 6 7]), .un]) := by kernel_rfl
theorem s45_5 : p45_s5 (ptab PP 198) [.sh pV, .sh leV, .sh (.int 100000000000000000000), .ow .own (.lst [prI 0 7, prI 0 6, prI 0 4, prI 0 2, prI 0 1, prI 1 2, prI 2 4, prI 2 3, prI 3 4, prI 4 6, prI 4 5, prI 5 6, prI 6 7]), .un] = .ret (.nx [.sh pV, .sh leV, .sh (.int 100000000000000000000), .ow .own (.lst [prI 0 7, prI 0 6, prI 0 4, prI 0 2, prI 0 1, prI 1 2, prI 2 4, prI 2 3, prI 3 4, prI 4 6, prI 4 5, prI 5 6, prI 6 7]), .un]) := by kernel_rfl
theorem s45_6 : p45_s6 (ptab PP 198) [.sh pV, .sh leV, .sh (.int 100000000000000000000), .ow .own (.lst [prI 0 7, prI 0 6, prI 0 4, prI 0 2, prI 0 1, prI 1 2, prI 2 4, prI 2 3, prI 3 4, prI 4 6, prI 4 5, prI 5 6, prI 6 7]), .un] = .ret (.rt false (.bl true) [.sh pV, .sh leV, .sh (.int 100000000000000000000), .ow .own (.lst [prI 0 7, prI 0 6, prI 0 4, prI 0 2, prI 0 1, prI 1 2, prI 2 4, prI 2 3, prI 3 4, prI 4 6, prI 4 5, prI 5 6, prI 6 7]), .un]) := by kernel_rfl
theorem r45 : ptab PP 199 45 [] = .ret (false, .bl true, []) := by
  rw [show (199 : Nat) = 198 + 1 from rfl, pt45, p45_eq, seqR s45_0, seqR s45_1, seqR s45_2, seqR s45_3, seqR s45_4, seqR s45_5, s45_6]
  rfl
theorem s46_0 : p46_s0 (ptab PP 199) [.un, .un, .un, .un, .un, .un, .un, .un, .un, .un, .un, .un, .un] = .ret (.nx [.un, .sh pV, .un, .un, .un, .un, .un, .un, .un, .un, .un, .un, .un]) := by kernel_rfl
theorem s46_1 : p46_s1 (ptab PP 199) [.un, .sh pV, .un, .un, .un, .un, .un, .un, .un, .un, .un, .un, .un] = .ret (.nx [.un, .sh pV, .sh lV, .sh rV, .un, .un, .un, .un, .un, .un, .un, .un, .un]) := by kernel_rfl
theorem s46_2 : p46_s2 (ptab PP 199) [.un, .sh pV, .sh lV, .sh rV, .un, .un, .un, .un, .un, .un, .un, .un, .un] = .ret (.nx [.un, .sh pV, .sh lV, .sh rV, .sh thrV, .sh hvV, .un, .un, .un, .un, .un, .un, .un]) := by kernel_rfl
theorem s46_3 : p46_s3 (ptab PP 199) [.un, .sh pV, .sh lV, .sh rV, .sh thrV, .sh hvV, .un, .un, .un, .un, .un, .un, .un] = .ret (.nx [.un, .sh pV, .sh lV, .sh rV, .sh thrV, .sh hvV, .sh (.tup [pV, .tup []]), .sh (.tup [.tup [], pV]), .un, .un, .un, .un, .un]) := by kernel_rfl
theorem s46_4 : p46_s4 (ptab PP 199) [.un, .sh pV, .sh lV, .sh rV, .sh thrV, .sh hvV, .sh (.tup [pV, .tup []]), .sh (.tup [.tup [], pV]), .un, .un, .un, .un, .un] = .ret (.nx [.un, .sh pV, .sh lV, .sh rV, .sh thrV, .sh hvV, .sh (.tup [pV, .tup []]), .sh (.tup [.tup [], pV]), .un, .un, .un, .un, .un]) := by kernel_rfl
theorem s46_5 : p46_s5 (ptab PP 199) [.un, .sh pV, .sh lV, .sh rV, .sh thrV, .sh hvV, .sh (.tup [pV, .tup []]), .sh (.tup [.tup [], pV]), .un, .un, .un, .un, .un] = .ret (.nx [.un, .sh pV, .sh lV, .sh rV, .sh thrV, .sh hvV, .sh (.tup [pV, .tup []]), .sh (.tup [.tup [], pV]), .un, .un, .un, .un, .un]) := by kernel_rfl
theorem s46_6 : p46_s6 (ptab PP 199) [.un, .sh pV, .sh lV, .sh rV, .sh thrV, .sh hvV, .sh (.tup [pV, .tup []]), .sh (.tup [.tup [], pV]), .un, .un, .un, .un, .un] = .ret (.nx [.un, .sh pV, .sh lV, .sh rV, .sh thrV, .sh hvV, .sh (.tup [pV, .tup []]), .sh (.tup [.tup [], pV]), .un, .un, .un, .un, .un]) := by kernel_rfl
theorem s46_7 : p46_s7 (ptab PP 199) [.un, .sh pV, .sh lV, .sh rV, .sh thrV, .sh hvV, .sh (.tup [pV, .tup []]), .sh (.tup [.tup [], pV]), .un, .un, .un, .un, .un] = .ret (.nx [.un, .sh pV, .sh lV, .sh rV, .sh thrV, .sh hvV, .sh (.tup [pV, .tup []]), .sh (.tup [.tup [], pV]), .un, .un, .un, .un, .un]) := by kernel_rfl
theorem s46_8 : p46_s8 (ptab PP 199) [.un, .sh pV, .sh lV, .sh rV, .sh thrV, .sh hvV, .sh (.tup [pV, .tup []]), .sh (.tup [.tup [], pV]), .un, .un, .un, .un, .un] = .ret (.nx [.un, .sh pV, .sh lV, .sh rV, .sh thrV, .sh hvV, .sh (.tup [pV, .tup []]), .sh (.tup [.tup [], pV]), .sh (.int 1152921504606846976), .un, .un, .un, .un]) := by kernel_rfl
theorem s46_9 : p46_s9 (ptab PP 199) [.un, .sh pV, .sh lV, .sh rV, .sh thrV, .sh hvV, .sh (.tup [pV, .tup []]), .sh (.tup [.tup [], pV]), .sh (.int 1152921504606846976), .un, .un, .un, .un] = .ret (.nx [.un, .sh pV, .sh lV, .sh rV, .sh thrV, .sh hvV, .sh (.tup [pV, .tup []]), .sh (.tup [.tup [], pV]), .sh (.int 1152921504606846976), .un, .un, .un, .un]) := by kernel_rfl
theorem s46_10 : p46_s10 (ptab PP 199) [.un, .sh pV, .sh lV, .sh rV, .sh thrV, .sh hvV, .sh (.tup [pV, .tup []]), .sh (.tup [.tup [], pV]), .sh (.int 1152921504606846976), .un, .un, .un, .un] = .ret (.nx [.un, .sh pV, .sh lV, .sh rV, .sh thrV, .sh hvV, .sh (.tup [pV, .tup []]), .sh (.tup [.tup [], pV]), .sh (.int 1152921504606846976), .un, .un, .un, .un]) := by kernel_rfl
theorem s46_11 : p46_s11 (ptab PP 199) [.un, .sh pV, .sh lV, .sh rV, .sh thrV, .sh hvV, .sh (.tup [pV, .tup []]), .sh (.tup [.tup [], pV]), .sh (.int 1152921504606846976), .un, .un, .un, .un] = .ret (.nx [.un, .sh pV, .sh lV, .sh rV, .sh thrV, .sh hvV, .sh (.tup [pV, .tup []]), .sh (.tup [.tup [], pV]), .sh (.int 1152921504606846976), .un, .un, .un, .un]) := by kernel_rfl
theorem s46_12 : p46_s12 (ptab PP 199) [.un, .sh pV, .sh lV, .sh rV, .sh thrV, .sh hvV, .sh (.tup [pV, .tup []]), .sh (.tup [.tup [], pV]), .sh (.int 1152921504606846976), .un, .un, .un, .un] = .ret (.nx [.un, .sh pV, .sh lV, .sh rV, .sh thrV, .sh hvV, .sh (.tup [pV, .tup []]), .sh (.tup [.tup [], pV]), .sh (.int 1152921504606846976), .un, .un, .un, .un]) := by kernel_rfl
theorem s46_13 : p46_s13 (ptab PP 199) [.un, .sh pV, .sh lV, .sh rV, .sh thrV, .sh hvV, .sh (.tup [pV, .tup []]), .sh (.tup [.tup [], pV]), .sh (.int 1152921504606846976), .un, .un, .un, .un] = .ret (.nx [.un, .sh pV, .sh lV, .sh rV, .sh thrV, .sh hvV, .sh (.tup [pV, .tup []]), .sh (.tup [.tup [], pV]), .sh (.int 1152921504606846976), .un, .un, .un, .un]) := by kernel_rfl
theorem s46_14 : p46_s14 (ptab PP 199) [.un, .sh pV, .sh lV, .sh rV, .sh thrV, .sh hvV, .sh (.tup [pV, .tup []]), .sh (.tup [.tup [], pV]), .sh (.int 1152921504606846976), .un, .un, .un, .un] = .ret (.rt false (.bl true) [.un, .sh pV, .sh lV, .sh rV, .sh thrV, .sh hvV, .sh (.tup [pV, .tup []]), .sh (.tup [.tup [], pV]), .sh (.int 1152921504606846976), .un, .un, .un, .un]) := by
  have h := r45
  unfold p46_s14
  generalize ptab PP 199 = T at h ⊢
  simp only [BL0, BL1, BL2, BL3, if_true, if_false, Bool.false_eq_true, Bool.and_true, Bool.true_and, Bool.and_self, decide_true, decide_false, Bool.not_true, Bool.not_false, ne_eq, not_false_eq_true, Nat.reduceEqDiff, Nat.zero_le, h]
theorem law31 : p46 (ptab PP 199) env0 = .ret (.rt false (.bl true) [.un, .sh pV, .sh lV, .sh rV, .sh thrV, .sh hvV, .sh (.tup [pV, .tup []]), .sh (.tup [.tup [], pV]), .sh (.int 1152921504606846976), .un, .un, .un, .un]) := by
  rw [p46_eq]
  unfold env0
  rw [seqR s46_0, seqR s46_1, seqR s46_2, seqR s46_3, seqR s46_4, seqR s46_5, seqR s46_6, seqR s46_7, seqR s46_8, seqR s46_9, seqR s46_10, seqR s46_11, seqR s46_12, seqR s46_13, s46_14]
theorem law_true : ∀ ns : List Int, ns.length ≤ 63 → ∃ M, tabOf Prog 200 46 [.ref 0] [.frz (ns.map D.int)] = .ok (.bl true) M := fun ns hn => by
  obtain ⟨P, hP⟩ : ∃ P, P = p46 (ptab PP 199) := ⟨_, rfl⟩
  refine law_true_of rfl P hP ?_ ns hn
  rw [hP, law31]
  exact True.intro
end Ev
open PySem PySem.W PyProof.Rows
set_option maxRecDepth 100000 in
set_option maxHeartbeats 0 in
theorem PySem.Challenge.cw_lumpplans_k31_pressed_by_hand_holds : PySem.Challenge.rw_lumpplans_k31_pressed_by_hand.Holds := by
  w_on; o_law; k_head; (case hw => w_witness2)
  k_fill
  refine Ev.walk_evT (l := PySem.Challenge.rw_lumpplans_k31_pressed_by_hand) (n := 63) (k := 202) (t := Ev.tabOf Ev.Prog 200 46) rfl (by decide) rfl ⟨rfl, by decide, by decide⟩ (fun w h Y => PySem.W.km_in_of Y) ?F Ev.law_true
  case F =>
    intro w mg fa h KX G hmg
    refine' Ev.all_mk (l := PySem.Challenge.rw_lumpplans_k31_pressed_by_hand) KX G hmg ?a0 ?l0 ?c0 ?k0 ?a1 ?l1 ?c1 ?k1 ?a2 ?l2 ?c2 ?k2 ?a3 ?l3 ?c3 ?k3 ?a4 ?l4 ?c4 ?k4 ?a5 ?l5 ?c5 ?k5 ?a6 ?l6 ?c6 ?k6 ?a7 ?l7 ?c7 ?k7 ?a8 ?l8 ?c8 ?k8 ?a9 ?l9 ?c9 ?k9 ?a10 ?l10 ?c10 ?k10 ?a11 ?l11 ?c11 ?k11 ?a12 ?l12 ?c12 ?k12 ?a13 ?l13 ?c13 ?k13 ?a14 ?l14 ?c14 ?k14 ?a15 ?l15 ?c15 ?k15 ?a16 ?l16 ?c16 ?k16 ?a17 ?l17 ?c17 ?k17 ?a18 ?l18 ?c18 ?k18 ?a19 ?l19 ?c19 ?k19 ?a20 ?l20 ?c20 ?k20 ?q20 ?a21 ?l21 ?c21 ?k21 ?q21 ?a22 ?l22 ?c22 ?k22 ?q22 ?a23 ?l23 ?c23 ?k23 ?q23 ?a24 ?l24 ?c24 ?k24 ?q24 ?a25 ?l25 ?c25 ?k25 ?q25 ?a26 ?l26 ?c26 ?k26 ?q26 ?a27 ?l27 ?c27 ?k27 ?q27 ?a28 ?k28 ?u28 ?v28 ?w28 ?x28 ?y28 ?n28_plan ?n28_many ?n28_width ?i128 ?i228 ?i328 ?i428 ?e128 ?e228 ?e328 ?e428 ?e528 ?e628 ?a29 ?l29 ?c29 ?k29 ?a30 ?l30 ?c30 ?k30 ?a31 ?l31 ?c31 ?k31 ?a32 ?l32 ?c32 ?k32 ?a33 ?l33 ?c33 ?k33 ?a34 ?l34 ?c34 ?k34 ?a35 ?l35 ?c35 ?k35 ?a36 ?l36 ?c36 ?k36 ?a37 ?l37 ?c37 ?k37 ?a38 ?l38 ?c38 ?k38 ?a39 ?l39 ?c39 ?k39 ?q39 ?a40 ?l40 ?c40 ?k40 ?q40 ?a41 ?l41 ?c41 ?k41 ?q41 ?a42 ?l42 ?c42 ?k42 ?q42 ?a43 ?l43 ?c43 ?k43 ?q43 ?a44 ?k44 ?u44 ?v44 ?w44 ?x44 ?y44 ?n44_own_tables ?n44_own_end ?i144 ?i244 ?i344 ?i444 ?e144 ?e244 ?e344 ?e444 ?e544 ?e644 ?a45 ?l45 ?c45 ?k45 ?a46 ?l46 ?c46 ?k46 ?ga_ENDS ?gl_ENDS ?gi_MOST ?lc18 ?vp18 ?nt18 ?rf18 ?z_bool ?z_enumerate ?z_int ?z_isinstance ?z_len ?z_list ?z_max ?z_min ?z_range ?z_sorted ?z_str ?z_tuple
    (case a28 => k_is)
    (case a44 => k_is)
    (case a0 => k_is)
    (case l0 => k_is)
    (case c0 => k_is)
    (case k0 => k_is)
    (case a1 => k_is)
    (case l1 => k_is)
    (case c1 => k_is)
    (case k1 => k_is)
    (case a2 => k_is)
    (case l2 => k_is)
    (case c2 => k_is)
    (case k2 => k_is)
    (case a3 => k_is)
    (case l3 => k_is)
    (case c3 => k_is)
    (case k3 => k_is)
    (case a4 => k_is)
    (case l4 => k_is)
    (case c4 => k_is)
    (case k4 => k_is)
    (case a5 => k_is)
    (case l5 => k_is)
    (case c5 => k_is)
    (case k5 => k_is)
    (case a6 => k_is)
    (case l6 => k_is)
    (case c6 => k_is)
    (case k6 => k_is)
    (case a7 => k_is)
    (case l7 => k_is)
    (case c7 => k_is)
    (case k7 => k_is)
    (case a8 => k_is)
    (case l8 => k_is)
    (case c8 => k_is)
    (case k8 => k_is)
    (case a9 => k_is)
    (case l9 => k_is)
    (case c9 => k_is)
    (case k9 => k_is)
    (case a10 => k_is)
    (case l10 => k_is)
    (case c10 => k_is)
    (case k10 => k_is)
    (case a11 => k_is)
    (case l11 => k_is)
    (case c11 => k_is)
    (case k11 => k_is)
    (case a12 => k_is)
    (case l12 => k_is)
    (case c12 => k_is)
    (case k12 => k_is)
    (case a13 => k_is)
    (case l13 => k_is)
    (case c13 => k_is)
    (case k13 => k_is)
    (case a14 => k_is)
    (case l14 => k_is)
    (case c14 => k_is)
    (case k14 => k_is)
    (case a15 => k_is)
    (case l15 => k_is)
    (case c15 => k_is)
    (case k15 => k_is)
    (case a16 => k_is)
    (case l16 => k_is)
    (case c16 => k_is)
    (case k16 => k_is)
    (case a17 => k_is)
    (case l17 => k_is)
    (case c17 => k_is)
    (case k17 => k_is)
    (case a18 => k_is)
    (case l18 => k_is)
    (case c18 => k_is)
    (case k18 => k_is)
    (case a19 => k_is)
    (case l19 => k_is)
    (case c19 => k_is)
    (case k19 => k_is)
    (case a20 => k_is)
    (case l20 => k_is)
    (case c20 => k_is)
    (case k20 => k_is)
    (case q20 => k_is)
    (case a21 => k_is)
    (case l21 => k_is)
    (case c21 => k_is)
    (case k21 => k_is)
    (case q21 => k_is)
    (case a22 => k_is)
    (case l22 => k_is)
    (case c22 => k_is)
    (case k22 => k_is)
    (case q22 => k_is)
    (case a23 => k_is)
    (case l23 => k_is)
    (case c23 => k_is)
    (case k23 => k_is)
    (case q23 => k_is)
    (case a24 => k_is)
    (case l24 => k_is)
    (case c24 => k_is)
    (case k24 => k_is)
    (case q24 => k_is)
    (case a25 => k_is)
    (case l25 => k_is)
    (case c25 => k_is)
    (case k25 => k_is)
    (case q25 => k_is)
    (case a26 => k_is)
    (case l26 => k_is)
    (case c26 => k_is)
    (case k26 => k_is)
    (case q26 => k_is)
    (case a27 => k_is)
    (case l27 => k_is)
    (case c27 => k_is)
    (case k27 => k_is)
    (case q27 => k_is)
    (case k28 => k_is)
    (case u28 => k_is)
    (case v28 => k_is)
    (case w28 => k_is)
    (case x28 => k_is)
    (case y28 => k_is)
    (case n28_plan => k_is)
    (case n28_many => k_is)
    (case n28_width => k_is)
    (case i128 => k_is)
    (case i228 => k_is)
    (case i328 => k_is)
    (case i428 => k_is)
    (case e128 => kit_is)
    (case e228 => kit_is)
    (case e328 => kit_is)
    (case e428 => kit_is)
    (case e528 => kit_is)
    (case e628 => kit_is)
    (case a29 => k_is)
    (case l29 => k_is)
    (case c29 => k_is)
    (case k29 => k_is)
    (case a30 => k_is)
    (case l30 => k_is)
    (case c30 => k_is)
    (case k30 => k_is)
    (case a31 => k_is)
    (case l31 => k_is)
    (case c31 => k_is)
    (case k31 => k_is)
    (case a32 => k_is)
    (case l32 => k_is)
    (case c32 => k_is)
    (case k32 => k_is)
    (case a33 => k_is)
    (case l33 => k_is)
    (case c33 => k_is)
    (case k33 => k_is)
    (case a34 => k_is)
    (case l34 => k_is)
    (case c34 => k_is)
    (case k34 => k_is)
    (case a35 => k_is)
    (case l35 => k_is)
    (case c35 => k_is)
    (case k35 => k_is)
    (case a36 => k_is)
    (case l36 => k_is)
    (case c36 => k_is)
    (case k36 => k_is)
    (case a37 => k_is)
    (case l37 => k_is)
    (case c37 => k_is)
    (case k37 => k_is)
    (case a38 => k_is)
    (case l38 => k_is)
    (case c38 => k_is)
    (case k38 => k_is)
    (case a39 => k_is)
    (case l39 => k_is)
    (case c39 => k_is)
    (case k39 => k_is)
    (case q39 => k_is)
    (case a40 => k_is)
    (case l40 => k_is)
    (case c40 => k_is)
    (case k40 => k_is)
    (case q40 => k_is)
    (case a41 => k_is)
    (case l41 => k_is)
    (case c41 => k_is)
    (case k41 => k_is)
    (case q41 => k_is)
    (case a42 => k_is)
    (case l42 => k_is)
    (case c42 => k_is)
    (case k42 => k_is)
    (case q42 => k_is)
    (case a43 => k_is)
    (case l43 => k_is)
    (case c43 => k_is)
    (case k43 => k_is)
    (case q43 => k_is)
    (case k44 => k_is)
    (case u44 => k_is)
    (case v44 => k_is)
    (case w44 => k_is)
    (case x44 => k_is)
    (case y44 => k_is)
    (case n44_own_tables => k_is)
    (case n44_own_end => k_is)
    (case i144 => k_is)
    (case i244 => k_is)
    (case i344 => k_is)
    (case i444 => k_is)
    (case e144 => kit_is)
    (case e244 => kit_is)
    (case e344 => kit_is)
    (case e444 => kit_is)
    (case e544 => kit_is)
    (case e644 => kit_is)
    (case a45 => k_is)
    (case l45 => k_is)
    (case c45 => k_is)
    (case k45 => k_is)
    (case a46 => k_is)
    (case l46 => k_is)
    (case c46 => k_is)
    (case k46 => k_is)
    (case ga_ENDS => k_is)
    (case gl_ENDS => k_is)
    (case gi_MOST => k_is)
    (case lc18 => k_is)
    (case vp18 => rfl)
    (case nt18 => kernel_rfl)
    (case rf18 => exact ⟨_, rfl⟩)
    (case z_bool => k_is)
    (case z_enumerate => k_is)
    (case z_int => k_is)
    (case z_isinstance => k_is)
    (case z_len => k_is)
    (case z_list => k_is)
    (case z_max => k_is)
    (case z_min => k_is)
    (case z_range => k_is)
    (case z_sorted => k_is)
    (case z_str => k_is)
    (case z_tuple => k_is)
#print axioms PySem.Challenge.cw_lumpplans_k31_pressed_by_hand_holds
